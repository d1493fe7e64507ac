/- Part 2 of the claim FnChain, merged by pack.py (this session's program) out of: the print's words, cut to what is needed; texts that gen.py printed (it runs the kit's print in place); texts of this session. -/
import Derived.Test.YtbjlldjkkdiblaaKFnChain1
namespace Go.Proofs.Ytbjlldjkkdiblaa.Sh
end Go.Proofs.Ytbjlldjkkdiblaa.Sh
namespace Go.Proofs.Ytbjlldjkkdiblaa.G
open Go.RowKit Go.Proofs.YtbjlldjkkdiblaaW.PrintWords Go.Proofs.YtbjlldjkkdiblaaW.PrintLast Go.Proofs.YtbjlldjkkdiblaaW.PrintMore Go.Proofs.Ytbjlldjkkdiblaa.Sh
attribute [local go_sem] max2_int min2_int max_two min_two max_three min_three max_four min_four
set_option linter.unusedVariables false
set_option linter.unusedSimpArgs false
def spec_l19Put.l0 : Nat → Int → Int → List (S49) → Int → ByteArray → Option (Int × (List (S49)))
 | 0, _, _, _, _, _ => none
 | k + 1, x5, x204000, x204001, x205000, x205001 => if x5 < (x204001.length : Int) then (if 0 ≤ x5 then ((spec_l19Before.f ((rd_T49 x204001 x5).f0) ((rd_T49 x204001 x5).f1) x205000 x205001).bind fun t208 => (if t208 = true then (spec_l19Put.l0 k (wrap64 (x5 + 1)) x204000 x204001 x205000 x205001) else ((some (([] : List (S49)) : List (S49))).bind fun y209 => (if x5 ≤ (x204001.length : Int) then ((some (x204001.drop (x5 : Int).toNat : List (S49))).bind fun y212 => (if y209.length + y212.length < 5864062014805 then ((some (y209 ++ y212 : List (S49))).bind fun y216 => ((some (x204001.take (x5 : Int).toNat : List (S49))).bind fun y219 => (if y219.length < 5864062014805 then ((some (y219 ++ [(⟨x205000, x205001⟩ : S49)] : List (S49))).bind fun y222 => (if y222.length + y216.length < 5864062014805 then (some (x204000, (y222 ++ y216))) else (none))) else (none)))) else (none))) else (none))))) else (none)) else ((some (([] : List (S49)) : List (S49))).bind fun y228 => (if 0 ≤ x5 then (if x5 ≤ (x204001.length : Int) then ((some (x204001.drop (x5 : Int).toNat : List (S49))).bind fun y231 => (if y228.length + y231.length < 5864062014805 then ((some (y228 ++ y231 : List (S49))).bind fun y235 => ((some (x204001.take (x5 : Int).toNat : List (S49))).bind fun y238 => (if y238.length < 5864062014805 then ((some (y238 ++ [(⟨x205000, x205001⟩ : S49)] : List (S49))).bind fun y241 => (if y241.length + y235.length < 5864062014805 then (some (x204000, (y241 ++ y235))) else (none))) else (none)))) else (none))) else (none)) else (none)))
def spec_l19Put.f (k : Nat) (a0_0 : Int) (l0_1 : List (S49)) (a1_0 : Int) (a1_1 : ByteArray) : Option (Int × (List (S49))) := (spec_l19At.f k a0_0 l0_1 a1_0 a1_1).bind fun t206 => (if t206 ≥ 0 then (some (a0_0, l0_1)) else (spec_l19Put.l0 k 0 a0_0 l0_1 a1_0 a1_1))
theorem spec_l19Put.mono_l : ∀ k, (∀ y0 y1 y2 y3 y4, LeO (spec_l19Put.l0 k y0 y1 y2 y3 y4) (spec_l19Put.l0 (k + 1) y0 y1 y2 y3 y4))
 | 0 => fun _ _ _ _ _ r h => by simp [spec_l19Put.l0] at h
 | k + 1 => by
  have ih0 := spec_l19Put.mono_l k
  ·intro y0 y1 y2 y3 y4
   unfold spec_l19Put.l0
   repeat' first | (with_reducible first | exact ih0 _ _ _ _ _ | exact spec_l19At.mono _ _ _ _ _ | exact LeO.refl _ | exact LeO.none _ | refine LeO.ite ?_ ?_ | refine LeO.bind ?_ (fun _ => ?_)) | exact ih0 _ _ _ _ _ | exact spec_l19At.mono _ _ _ _ _ | exact LeO.none _ | refine LeO.ite ?_ ?_ | refine LeO.bind ?_ (fun _ => ?_)
theorem spec_l19Put.mono : ∀ a0 a1 a2 a3 k, LeO (spec_l19Put.f k a0 a1 a2 a3) (spec_l19Put.f (k + 1) a0 a1 a2 a3) := by
 intro a0 a1 a2 a3 k
 have ih0 := spec_l19Put.mono_l k
 unfold spec_l19Put.f
 repeat' first | (with_reducible first | exact ih0 _ _ _ _ _ | exact spec_l19At.mono _ _ _ _ _ | exact LeO.refl _ | exact LeO.none _ | refine LeO.ite ?_ ?_ | refine LeO.bind ?_ (fun _ => ?_)) | exact ih0 _ _ _ _ _ | exact spec_l19At.mono _ _ _ _ _ | exact LeO.none _ | refine LeO.ite ?_ ?_ | refine LeO.bind ?_ (fun _ => ?_)
def spec_l19Put.T4 : Bool × List (List Nat × List Nat) := (true, [([], []), ([], []), ([1], [1]), ([2], [2]), ([0, 3], [0, 3]), ([4], [4]), ([5], [5]), ([6, 5], [5, 6]), ([5], [5]), ([7, 8, 5], [5, 7, 8]), ([9, 5], [5, 9]), ([5], [5]), ([10, 11, 5, 5], [5, 10, 11]), ([5, 12], [5, 12])])
def spec_l19Put.B4 : List Nat := [0, 0, 2, 6, 15, 31, 63, 127, 63, 511, 1023, 63, 4095, 8191]
theorem spec_l19Put.tab4 : rtab .any (opsOf Try.f79 4) = spec_l19Put.T4 := by kernel_rfl
theorem spec_l19Put.bits4 : waitsOk spec_l19Put.T4.2 spec_l19Put.B4 = true := by kernel_rfl
def spec_l19Put.T7 : Bool × List (List Nat × List Nat) := (true, [([], []), ([0], [0]), ([], []), ([1, 2], [1, 2]), ([], []), ([4], [4]), ([3, 5], [3, 5]), ([], []), ([6, 7, 6], [6, 7]), ([0, 1, 2, 3, 4, 5, 6, 7, 8], []), ([9, 8, 8, 0, 1, 2, 3, 4, 5, 6, 7, 8], [8, 9])])
def spec_l19Put.B7 : List Nat := [0, 1, 0, 7, 0, 16, 63, 0, 255, 511, 1023]
theorem spec_l19Put.tab7 : rtab .any (opsOf Try.f79 7) = spec_l19Put.T7 := by kernel_rfl
theorem spec_l19Put.bits7 : waitsOk spec_l19Put.T7.2 spec_l19Put.B7 = true := by kernel_rfl
theorem spec_l19Put.z0 {P : Prop} (h : P := by repeat (first | (with_reducible first | exact HK.out | apply Kept.alloc | apply Kept.drewN | apply Kept.drew | refine Kept.setCell ?_ (.inr GW203.out) _ | refine Kept.setCell ?_ (.inr GW204.out) _ | refine Kept.setCell ?_ (.inr GW205.out) _) | exact HK.out)) : P := h
theorem spec_l19Put.z1 {P : Prop} (h : P := by first | exact HK.out.1 | exact (show Kept w _ (fun k_ => P0_1_ k_) from by repeat (first | (with_reducible first | exact HK.out | apply Kept.alloc | apply Kept.drewN | apply Kept.drew | refine Kept.setCell ?_ (.inr GW203.out) _ | refine Kept.setCell ?_ (.inr GW204.out) _ | refine Kept.setCell ?_ (.inr GW205.out) _) | exact HK.out)).1) : P := h
theorem spec_l19Put.z2 {P : Prop} (h : P := by repeat (first | (with_reducible first | exact HB.out | apply below_alloc | apply pw_below_drewN | apply below_drew1 | refine below_set ?_ GE203.out | refine below_set ?_ GE204.out | refine below_set ?_ GE205.out) | exact HB.out)) : P := h
theorem spec_l19Put.z3 {P : Prop} (h : P := by rw [hg]; exact Nat.ne_of_lt (blk_lt (BD BK203))) : P := h
theorem spec_l19Put.z4 {P : Prop} (h : P := by rw [hg]; exact Nat.ne_of_gt (blk_lt (BD BK203))) : P := h
set_option maxHeartbeats 8000000 in
set_option maxRecDepth 100000 in
theorem spec_l19Put.calls (k : Nat) (a0_0 : Int) (P0_1_ : Nat → Prop) (u9000_ : Value) (l0_1 : List (S49)) (a1_0 : Int) (a1_1 : ByteArray) (r1 : Int) (r2 : List (S49)) (w0 w : World) (hB : Below w0.heap.size w0 w) (ho0_1 : Kd.R k49 49 w w0.heap.size P0_1_ u9000_ l0_1) (h : spec_l19Put.f k a0_0 l0_1 a1_0 a1_1 = some (r1, r2)) :
  Calls Try.prog 79 #[.agg #[.int .i64 a0_0, u9000_], .agg #[.int .i64 a1_0, .string a1_1]] w fun e w' => ∃ v1_ : Value, e = .returned (.agg #[.int .i64 r1, v1_]) ∧ Kd.R k49 49 w' w0.heap.size (fun k_ => (P0_1_ k_ ∨ w.heap.size ≤ k_)) v1_ r2 ∧ Below w0.heap.size w0 w' ∧ Kept w w' (fun k_ => P0_1_ k_) := by
 have hu25 := Try.underlying25
 have hu49 := Try.underlying49
 have HO0_1 := Aside0.mk (show Kd.R k49 49 w w0.heap.size (fun k_ => (P0_1_ k_ ∨ w.heap.size ≤ k_)) u9000_ l0_1 from Kd.R_mono ho0_1 (fun k_ hk => (.inl hk)))
 have HK := Aside0.mk (Kept.refl w (fun k_ => P0_1_ k_))
 have HW0 := Aside0.mk hB.size
 have HB := Aside0.mk hB
 clear hB
 have H : ((spec_l19At.f k a0_0 l0_1 a1_0 a1_1).bind fun t206 => (if t206 ≥ 0 then (some (a0_0, l0_1)) else (spec_l19Put.l0 k 0 a0_0 l0_1 a1_0 a1_1))) = some (r1, r2) := h
 clear h
 replace H := BS H
 obtain ⟨t206, A30, H⟩ := H
 have A3 := Aside0.mk A30
 clear A30
 by_cases c4 : t206 ≥ 0
 ·rw [if_pos c4] at H
  have c4b0 : decide (0 ≤ t206) = true := decide_eq_true c4
  clear c4
  simp only [Option.some.injEq, Prod.mk.injEq] at H
  obtain ⟨rfl, rfl⟩ := H
  obtain ⟨Ao5, co5, eo5⟩ := Kd.R_slice HO0_1.out
  subst eo5
  go_enter Try.func79, Try.ntmps79
  go_wp2_with (first | ((with_reducible refine gate_dst (N := 2) rfl ?_); refine box_event ?hg (N := 2) ?hd (cs := #[.int .i64 a0_0, .slice Ao5 l0_1.length co5]) (t := 25) ?hr ?_; (case hd => rfl); (case hg => rfl); (case hr => first | (go_simp; done) | (go_simp; rfl)); intro gb203 hg w6 hbox hb; have n_ : _ ∧ _ ∧ _ ∧ _ ∧ _ ∧ _ := ⟨AsM (Kd.R_below (RD HO0_1) hb), AsM (Kept.below (S := (fun k_ => P0_1_ k_)) (HK1) hb), AsM (below_step BL hb), AsM (hbox), AsM ((by rw [hg]; exact (by first | exact HK.out.1 | exact (show Kept w _ (fun k_ => P0_1_ k_) from by repeat (first | (with_reducible first | exact HK.out | apply Kept.alloc | apply Kept.drewN | apply Kept.drew) | exact HK.out)).1) : w.heap.size ≤ gb203)), AsM ((GL : w0.heap.size ≤ gb203))⟩; clear HO0_1 HK HB; obtain ⟨HO0_1, HK, HB, BK203, GW203, GE203⟩ := n_; clear hb hbox hg) | ((with_reducible refine gate_dst (N := 3) rfl ?_); refine box_event ?hg (N := 3) ?hd (cs := #[.int .i64 a1_0, .string a1_1]) (t := 49) ?hr ?_; (case hd => rfl); (case hg => rfl); (case hr => first | (go_simp; done) | (go_simp; rfl)); intro gb204 hg w7 hbox hb; have n_ : _ ∧ _ ∧ _ ∧ _ ∧ _ ∧ _ ∧ _ ∧ _ ∧ _ := ⟨AsM (Kd.R_below (Kd.R_elderB (RD HO0_1) gb204 (Nat.le_of_eq hg.symm)) hb), AsM (blk_below (BD BK203) hb), AsM (Kept.below (S := (fun k_ => P0_1_ k_)) (by repeat (first | (with_reducible first | exact HK.out | apply Kept.alloc | apply Kept.drewN | apply Kept.drew | refine Kept.setCell ?_ (.inr GW203.out) _) | exact HK.out)) hb), AsM (below_step BG hb), AsM (hbox), AsM ((by rw [hg]; exact (by first | exact HK.out.1 | exact (show Kept w _ (fun k_ => P0_1_ k_) from by repeat (first | (with_reducible first | exact HK.out | apply Kept.alloc | apply Kept.drewN | apply Kept.drew | refine Kept.setCell ?_ (.inr GW203.out) _) | exact HK.out)).1) : w.heap.size ≤ gb204)), AsM ((GM : w0.heap.size ≤ gb204)), AsM ((spec_l19Put.z3 : gb203 ≠ gb204)), AsM ((spec_l19Put.z4 : gb204 ≠ gb203))⟩; clear HO0_1 BK203 HK HB; obtain ⟨HO0_1, BK203, HK, HB, BK204, GW204, GE204, NB203_204, NB204_203⟩ := n_; clear hb hbox hg) | ((with_reducible refine gate_dst (N := 4) rfl ?_); refine box_event ?hg (N := 4) ?hd (cs := #[.int .i64 0, .slice none 0 0]) (t := 25) ?hr ?_; (case hd => rfl); (case hg => rfl); (case hr => first | (go_simp; done) | (go_simp; rfl)); intro gb205 hg w8 hbox hb; have n_ : _ ∧ _ ∧ _ ∧ _ ∧ _ ∧ _ ∧ _ ∧ _ ∧ _ ∧ _ ∧ _ ∧ _ := ⟨AsM (Kd.R_below (RD HO0_1) hb), AsM (blk_below (BD BK203) hb), AsM (blk_below (BD BK204) hb), AsM (Kept.below (S := (fun k_ => P0_1_ k_)) (by repeat (first | (with_reducible first | exact HK.out | apply Kept.alloc | apply Kept.drewN | apply Kept.drew | refine Kept.setCell ?_ (.inr GW203.out) _ | refine Kept.setCell ?_ (.inr GW204.out) _) | exact HK.out)) hb), AsM (below_step BG hb), AsM (hbox), AsM ((by rw [hg]; exact (by first | exact HK.out.1 | exact (show Kept w _ (fun k_ => P0_1_ k_) from by repeat (first | (with_reducible first | exact HK.out | apply Kept.alloc | apply Kept.drewN | apply Kept.drew | refine Kept.setCell ?_ (.inr GW203.out) _ | refine Kept.setCell ?_ (.inr GW204.out) _) | exact HK.out)).1) : w.heap.size ≤ gb205)), AsM ((GM : w0.heap.size ≤ gb205)), AsM ((spec_l19Put.z3 : gb203 ≠ gb205)), AsM ((spec_l19Put.z4 : gb205 ≠ gb203)), AsM ((by rw [hg]; exact Nat.ne_of_lt (blk_lt (BD BK204)) : gb204 ≠ gb205)), AsM ((by rw [hg]; exact Nat.ne_of_gt (blk_lt (BD BK204)) : gb205 ≠ gb204))⟩; clear HO0_1 BK203 BK204 HK HB; obtain ⟨HO0_1, BK203, BK204, HK, HB, BK205, GW205, GE205, NB203_205, NB205_203, NB204_205, NB205_204⟩ := n_; clear hb hbox hg; have hnb9 := NB203_204.out; have hnc9 := NB204_203.out; have hnb10 := NB203_205.out; have hnc10 := NB205_203.out; obtain ⟨hcz11_0, hcz11_1, hfz11_0, hfz11_1⟩ := bk2 BK203.out; have hnb12 := NB204_205.out; have hnc12 := NB205_204.out; obtain ⟨hcz13_0, hcz13_1, hfz13_0, hfz13_1⟩ := bk2 BK204.out) | ((with_reducible refine gate_callee (f := 54) rfl ?_); refine goesL_ (some 9) rfl rfl Try.func54 (by kernel_rfl) rfl #[.agg #[.int .i64 a0_0, .slice Ao5 l0_1.length co5], .agg #[.int .i64 a1_0, .string a1_1]] rfl AQ ?_; (with_reducible refine (spec_l19At.calls k a0_0 _ _ l0_1 a1_0 a1_1 t206 _ ?side1 ?side2 A3.out).mono ?_); (case side1 => exact SR HO0_1); (case side2 => exact (Kd.R_reads' HO0_1.out).2.1); rintro e w14 ⟨rfl, hb⟩; refine ⟨_, rfl, ?_⟩; have n_ : _ ∧ _ ∧ _ ∧ _ ∧ _ ∧ _ := ⟨AsM (Kd.R_below (RD HO0_1) hb), AsM (blk_below (BD BK203) hb), AsM (blk_below (BD BK204) hb), AsM (blk_below (BD BK205) hb), AsM (Kept.below (S := (fun k_ => P0_1_ k_)) (spec_l19Put.z0) hb), AsM (below_step BG hb)⟩; clear HO0_1 BK203 BK204 BK205 HK HB; obtain ⟨HO0_1, BK203, BK204, BK205, HK, HB⟩ := n_; (try clear hb); (try clear hb2); (try clear hk); (try clear hi); obtain ⟨hcz15_0, hcz15_1, hfz15_0, hfz15_1⟩ := bk2 BK203.out; obtain ⟨hcz16_0, hcz16_1, hfz16_0, hfz16_1⟩ := bk2 BK205.out))
  refine bodyPost_ret (results_cell_row rfl _ _ gb205 25 #[.int .i64 a0_0, .slice Ao5 l0_1.length co5] (0, 0) _ rfl (by refine PX ?_; refine blk_put (cs := #[.int .i64 a0_0, .slice none 0 0]) ?_ 1 _ rfl; refine PX ?_; refine blk_put (cs := #[.int .i64 0, .slice none 0 0]) ?_ 0 _ rfl; exact BD BK205) Try.underlying25 rfl (by kernel_rfl)) rfl ?_
  exact ⟨_, ER, by refine PRx ?_; exact Kd.R_mono (FR (FR (Kd.R_types HO0_1.out BK205.out (by decide)))) (fun _ hk => hk.1.1), spec_l19Put.z2, spec_l19Put.z0⟩
 ·rw [if_neg c4] at H
  have c4b0 : decide (0 ≤ t206) = false := decide_eq_false c4
  clear c4
  have H' := Aside0.mk H
  clear H
  obtain ⟨Ao17, co17, eo17⟩ := Kd.R_slice HO0_1.out
  subst eo17
  go_enter Try.func79, Try.ntmps79
  go_wp2_with (first | ((with_reducible refine gate_dst (N := 2) rfl ?_); refine box_event ?hg (N := 2) ?hd (cs := #[.int .i64 a0_0, .slice Ao17 l0_1.length co17]) (t := 25) ?hr ?_; (case hd => rfl); (case hg => rfl); (case hr => first | (go_simp; done) | (go_simp; rfl)); intro gb203 hg w18 hbox hb; have n_ : _ ∧ _ ∧ _ ∧ _ ∧ _ ∧ _ := ⟨AsM (Kd.R_below (RD HO0_1) hb), AsM (Kept.below (S := (fun k_ => P0_1_ k_)) (HK1) hb), AsM (below_step BL hb), AsM (hbox), AsM ((by rw [hg]; exact (by first | exact HK.out.1 | exact (show Kept w _ (fun k_ => P0_1_ k_) from by repeat (first | (with_reducible first | exact HK.out | apply Kept.alloc | apply Kept.drewN | apply Kept.drew) | exact HK.out)).1) : w.heap.size ≤ gb203)), AsM ((GL : w0.heap.size ≤ gb203))⟩; clear HO0_1 HK HB; obtain ⟨HO0_1, HK, HB, BK203, GW203, GE203⟩ := n_; clear hb hbox hg) | ((with_reducible refine gate_dst (N := 3) rfl ?_); refine box_event ?hg (N := 3) ?hd (cs := #[.int .i64 a1_0, .string a1_1]) (t := 49) ?hr ?_; (case hd => rfl); (case hg => rfl); (case hr => first | (go_simp; done) | (go_simp; rfl)); intro gb204 hg w19 hbox hb; have n_ : _ ∧ _ ∧ _ ∧ _ ∧ _ ∧ _ ∧ _ ∧ _ ∧ _ := ⟨AsM (Kd.R_below (Kd.R_elderB (RD HO0_1) gb204 (Nat.le_of_eq hg.symm)) hb), AsM (blk_below (BD BK203) hb), AsM (Kept.below (S := (fun k_ => P0_1_ k_)) (by repeat (first | (with_reducible first | exact HK.out | apply Kept.alloc | apply Kept.drewN | apply Kept.drew | refine Kept.setCell ?_ (.inr GW203.out) _) | exact HK.out)) hb), AsM (below_step BG hb), AsM (hbox), AsM ((by rw [hg]; exact (by first | exact HK.out.1 | exact (show Kept w _ (fun k_ => P0_1_ k_) from by repeat (first | (with_reducible first | exact HK.out | apply Kept.alloc | apply Kept.drewN | apply Kept.drew | refine Kept.setCell ?_ (.inr GW203.out) _) | exact HK.out)).1) : w.heap.size ≤ gb204)), AsM ((GM : w0.heap.size ≤ gb204)), AsM ((spec_l19Put.z3 : gb203 ≠ gb204)), AsM ((spec_l19Put.z4 : gb204 ≠ gb203))⟩; clear HO0_1 BK203 HK HB; obtain ⟨HO0_1, BK203, HK, HB, BK204, GW204, GE204, NB203_204, NB204_203⟩ := n_; clear hb hbox hg) | ((with_reducible refine gate_dst (N := 4) rfl ?_); refine box_event ?hg (N := 4) ?hd (cs := #[.int .i64 0, .slice none 0 0]) (t := 25) ?hr ?_; (case hd => rfl); (case hg => rfl); (case hr => first | (go_simp; done) | (go_simp; rfl)); intro gb205 hg w20 hbox hb; have n_ : _ ∧ _ ∧ _ ∧ _ ∧ _ ∧ _ ∧ _ ∧ _ ∧ _ ∧ _ ∧ _ ∧ _ := ⟨AsM (Kd.R_below (RD HO0_1) hb), AsM (blk_below (BD BK203) hb), AsM (blk_below (BD BK204) hb), AsM (Kept.below (S := (fun k_ => P0_1_ k_)) (by repeat (first | (with_reducible first | exact HK.out | apply Kept.alloc | apply Kept.drewN | apply Kept.drew | refine Kept.setCell ?_ (.inr GW203.out) _ | refine Kept.setCell ?_ (.inr GW204.out) _) | exact HK.out)) hb), AsM (below_step BG hb), AsM (hbox), AsM ((by rw [hg]; exact (by first | exact HK.out.1 | exact (show Kept w _ (fun k_ => P0_1_ k_) from by repeat (first | (with_reducible first | exact HK.out | apply Kept.alloc | apply Kept.drewN | apply Kept.drew | refine Kept.setCell ?_ (.inr GW203.out) _ | refine Kept.setCell ?_ (.inr GW204.out) _) | exact HK.out)).1) : w.heap.size ≤ gb205)), AsM ((GM : w0.heap.size ≤ gb205)), AsM ((spec_l19Put.z3 : gb203 ≠ gb205)), AsM ((spec_l19Put.z4 : gb205 ≠ gb203)), AsM ((by rw [hg]; exact Nat.ne_of_lt (blk_lt (BD BK204)) : gb204 ≠ gb205)), AsM ((by rw [hg]; exact Nat.ne_of_gt (blk_lt (BD BK204)) : gb205 ≠ gb204))⟩; clear HO0_1 BK203 BK204 HK HB; obtain ⟨HO0_1, BK203, BK204, HK, HB, BK205, GW205, GE205, NB203_205, NB205_203, NB204_205, NB205_204⟩ := n_; clear hb hbox hg; have hnb21 := NB203_204.out; have hnc21 := NB204_203.out; have hnb22 := NB203_205.out; have hnc22 := NB205_203.out; obtain ⟨hcz23_0, hcz23_1, hfz23_0, hfz23_1⟩ := bk2 BK203.out; have hnb24 := NB204_205.out; have hnc24 := NB205_204.out; obtain ⟨hcz25_0, hcz25_1, hfz25_0, hfz25_1⟩ := bk2 BK204.out) | ((with_reducible refine gate_callee (f := 54) rfl ?_); refine goesL_ (some 9) rfl rfl Try.func54 (by kernel_rfl) rfl #[.agg #[.int .i64 a0_0, .slice Ao17 l0_1.length co17], .agg #[.int .i64 a1_0, .string a1_1]] rfl AQ ?_; (with_reducible refine (spec_l19At.calls k a0_0 _ _ l0_1 a1_0 a1_1 t206 _ ?side1 ?side2 A3.out).mono ?_); (case side1 => exact SR HO0_1); (case side2 => exact (Kd.R_reads' HO0_1.out).2.1); rintro e w26 ⟨rfl, hb⟩; refine ⟨_, rfl, ?_⟩; have n_ : _ ∧ _ ∧ _ ∧ _ ∧ _ ∧ _ := ⟨AsM (Kd.R_below (RD HO0_1) hb), AsM (blk_below (BD BK203) hb), AsM (blk_below (BD BK204) hb), AsM (blk_below (BD BK205) hb), AsM (Kept.below (S := (fun k_ => P0_1_ k_)) (spec_l19Put.z0) hb), AsM (below_step BG hb)⟩; clear HO0_1 BK203 BK204 BK205 HK HB; obtain ⟨HO0_1, BK203, BK204, BK205, HK, HB⟩ := n_; (try clear hb); (try clear hb2); (try clear hk); (try clear hi)))
  go_loopg [5] k (fun kq v5 w' => ∃ (x5_1 : Int), v5 = .int .i64 x5_1 ∧ Aside0 (spec_l19Put.l0 kq x5_1 a0_0 l0_1 a1_0 a1_1 = some (r1, r2)) ∧ Aside0 (kq ≤ k) ∧ Aside0 (Kd.R k49 49 w' w0.heap.size (fun k_ => (P0_1_ k_ ∨ w.heap.size ≤ k_) ∧ k_ ≠ gb204) (.slice Ao17 l0_1.length co17) l0_1) ∧ Aside0 (w'.heap[gb203]? = some (.cells #[.int .i64 a0_0, (.slice Ao17 l0_1.length co17)] 25 (0, 0))) ∧ Aside0 (w'.heap[gb204]? = some (.cells #[.int .i64 a1_0, .string a1_1] 49 (0, 0))) ∧ Aside0 (w'.heap[gb205]? = some (.cells #[.int .i64 0, (.slice none 0 0)] 25 (0, 0))) ∧ Aside0 (Kept w w' (fun k_ => P0_1_ k_)) ∧ Aside0 (Below w0.heap.size w0 w'))
  case atStart => exact ⟨(0), RS, H', ⟨Nat.le_refl _⟩, ⟨RD HO0_1⟩, ⟨BD BK203⟩, ⟨BD BK204⟩, ⟨BD BK205⟩, ⟨spec_l19Put.z0⟩, ⟨spec_l19Put.z2⟩⟩
  case round =>
   clear H'
   try clear c1
   try clear c2
   try clear p2
   try clear c4
   try clear c4b0
   try clear c5
   try clear c7
   try clear c9
   try clear c10
   try clear c12
   try clear c21
   try clear c22
   try clear c24
   try clear hcz11_0
   try clear hcz11_1
   try clear hcz13_0
   try clear hcz13_1
   try clear hcz15_0
   try clear hcz15_1
   try clear hcz16_0
   try clear hcz16_1
   try clear hcz23_0
   try clear hcz23_1
   try clear hcz25_0
   try clear hcz25_1
   try clear hfz11_0
   try clear hfz11_1
   try clear hfz13_0
   try clear hfz13_1
   try clear hfz15_0
   try clear hfz15_1
   try clear hfz16_0
   try clear hfz16_1
   try clear hfz23_0
   try clear hfz23_1
   try clear hfz25_0
   try clear hfz25_1
   obtain ⟨x5_1, rfl, HA, HK1, HO_204001, BK203, BK204, BK205, HK, HB⟩ := hrel
   cases gk with
   | zero => exact absurd HA.out (by simp [spec_l19Put.l0])
   | succ k1 =>
    have H := HA.out
    clear HA
    simp only [spec_l19Put.l0] at H
    by_cases c27 : x5_1 < (l0_1.length : Int)
    ·rw [if_pos c27] at H
     have c27b0 : decide (x5_1 < (l0_1.length : Int)) = true := decide_eq_true c27
     clear c27
     by_cases c28 : 0 ≤ x5_1
     ·rw [if_pos c28] at H
      have c28b0 : decide (0 ≤ x5_1) = true := decide_eq_true c28
      clear c28
      replace H := BS H
      obtain ⟨t208, A290, H⟩ := H
      have A29 := Aside0.mk A290
      clear A290
      by_cases c30 : t208 = true
      ·subst c30
       replace H := IP H
       have H' := Aside0.mk H
       clear H
       try go_wp2
       have n_ : _ ∧ _ ∧ _ ∧ _ ∧ _ ∧ _ := ⟨AsM (Kd.R_drew HO_204001.out), AsM (blk_drew BK203.out), AsM (blk_drew BK204.out), AsM (blk_drew BK205.out), AsM (Kept.drew HK.out), AsM (below_drew1 HB.out)⟩
       clear HO_204001 BK203 BK204 BK205 HK HB
       obtain ⟨HO_204001, BK203, BK204, BK205, HK, HB⟩ := n_
       have p207 : 0 ≤ (x5_1 : Int) := of_decide_eq_true AS
       have q207 : x5_1 < (l0_1.length : Int) := of_decide_eq_true AS
       obtain ⟨ad207, e207, hx207_0, hx207_1⟩ := at_T49 (Kd.R_reads' HO_204001.out).2.2 x5_1 p207 q207
       cases e207
       replace p207 := eq_true p207
       replace q207 := eq_true q207
       refine start_ (n := 14) (S := fun w' => w'.cell? ⟨gb203, 0, none⟩ = some (.int .i64 a0_0) ∧ w'.cell? ⟨gb203, 1, none⟩ = some (.slice (some ad207) l0_1.length co17) ∧ w'.cell? ⟨gb204, 0, none⟩ = some (.int .i64 a1_0) ∧ w'.cell? ⟨gb204, 1, none⟩ = some (.string a1_1) ∧ w'.cell? (ad207.add ((x5_1).toNat * 2)) = some (.int .i64 ((rd_T49 l0_1 x5_1).f0)) ∧ w'.cell? ⟨(ad207.add ((x5_1).toNat * 2)).block, (ad207.add ((x5_1).toNat * 2)).off + 1, none⟩ = some (.string ((rd_T49 l0_1 x5_1).f1))) (ds := []) #[false, false, false, false, false, false, false, false, false, false, false, false, false, false] (by kernel_rfl) rfl rfl ⟨(blk_cell BK203.out 0).trans rfl, (blk_cell BK203.out 1).trans rfl, (blk_cell BK204.out 0).trans rfl, (blk_cell BK204.out 1).trans rfl, hx207_0, hx207_1⟩ (fun hHeld => ?_); refine with_tabW spec_l19Put.tab4 spec_l19Put.bits4 (fun HT_ HW_ => ?_)
       generalize wr.drew = w31 at HO_204001 BK203 BK204 BK205 HK HB hx207_0 hx207_1 hHeld ⊢
       refine PU (i := 0) (N := some 12) (tf 1 13) rfl rfl HT_ ?_
       refine PU (i := 1) (N := some 13) (tf 2 12) rfl rfl HT_ ?_
       refine PT (i := 2) (N := some 14) (tf 3 11) rfl rfl HT_ HW_ hHeld ?_
       refine PU (i := 3) (N := some 15) (tf 4 10) rfl rfl HT_ ?_
       refine PU (i := 4) (N := some 16) (tf 5 9) rfl rfl HT_ ?_
       refine PU (i := 5) (N := some 17) (tf 6 8) rfl rfl HT_ ?_
       refine PU (i := 6) (N := some 18) (tf 7 7) rfl rfl HT_ ?_
       refine PU (i := 8) (N := some 20) #[true, true, true, true, true, true, true, false, true, false, false, false, false, false] rfl rfl HT_ ?_
       refine PT (i := 7) (N := some 19) (tf 9 5) rfl rfl HT_ HW_ hHeld ?_
       refine PU (i := 9) (N := some 21) (tf 10 4) rfl rfl HT_ ?_
       refine PT (i := 10) (N := some 22) (tf 11 3) rfl rfl HT_ HW_ hHeld ?_
       refine PT (i := 11) (N := some 23) (tf 12 2) rfl rfl HT_ HW_ hHeld ?_
       refine one_ (i := 12) (N := some 24) (tf 13 1) rfl rfl (one_of HT_.out (by kernel_rfl)) (by decide) (fun K hK => ?_)
       refine goes_ Try.func56 (by kernel_rfl) rfl #[.agg #[.int .i64 ((rd_T49 l0_1 x5_1).f0), .string ((rd_T49 l0_1 x5_1).f1)], .agg #[.int .i64 a1_0, .string a1_1]] (by rfl) rfl rfl AQ ?_
       with_reducible refine (spec_l19Before.calls ((rd_T49 l0_1 x5_1).f0) ((rd_T49 l0_1 x5_1).f1) a1_0 a1_1 true _ A29.out).mono ?_
       rintro e w32 ⟨rfl, hb⟩
       have HS4_ := (hb.cell (World.block_lt_of_cell? _ _ (hHeld.2.2.2.2.1))).trans (hHeld.2.2.2.2.1)
       have HS5_ := (hb.cell (World.block_lt_of_cell? _ _ (hHeld.2.2.2.2.2))).trans (hHeld.2.2.2.2.2)
       refine ⟨_, rfl, ?_⟩
       have n_ : _ ∧ _ ∧ _ ∧ _ ∧ _ ∧ _ := ⟨AsM (Kd.R_below (RD HO_204001) hb), AsM (blk_below (BD BK203) hb), AsM (blk_below (BD BK204) hb), AsM (blk_below (BD BK205) hb), AsM (Kept.below (S := (fun k_ => P0_1_ k_)) (spec_l19Put.z0) hb), AsM (below_step BG hb)⟩
       clear HO_204001 BK203 BK204 BK205 HK HB
       obtain ⟨HO_204001, BK203, BK204, BK205, HK, HB⟩ := n_
       (try clear hb)
       (try clear hb2)
       (try clear hk)
       (try clear hi)
       refine hK.out _ _ ⟨(blk_cell BK203.out 0).trans rfl, (blk_cell BK203.out 1).trans rfl, (blk_cell BK204.out 0).trans rfl, (blk_cell BK204.out 1).trans rfl, HS4_, HS5_⟩ (fun hHeld => ?_)
       clear hK K
       refine NM (some 24) ?_
       refine PU (i := 13) (N := some 25) (tf 14 0) rfl rfl HT_ ?_
       refine done_ (done_of HT_.out (by kernel_rfl)) ?_
       try go_wp2
       go_roundg k1
       case measure => have := HK1.out; omega
       case rel => exact ⟨(wrap64 (x5_1 + 1)), RS, H', ⟨by have := HK1.out; omega⟩, ⟨RD HO_204001⟩, ⟨BD BK203⟩, ⟨BD BK204⟩, ⟨BD BK205⟩, ⟨spec_l19Put.z0⟩, ⟨spec_l19Put.z2⟩⟩
      ·replace c30 := Bool.eq_false_iff.mpr c30
       subst c30
       replace H := IN H
       obtain ⟨y209, hy209⟩ : ∃ y_ : List (S49), y_ = (([] : List (S49))) := ⟨_, rfl⟩
       replace H : (if x5_1 ≤ (l0_1.length : Int) then ((some (l0_1.drop (x5_1 : Int).toNat : List (S49))).bind fun y212 => (if y209.length + y212.length < 5864062014805 then ((some (y209 ++ y212 : List (S49))).bind fun y216 => ((some (l0_1.take (x5_1 : Int).toNat : List (S49))).bind fun y219 => (if y219.length < 5864062014805 then ((some (y219 ++ [(⟨a1_0, a1_1⟩ : S49)] : List (S49))).bind fun y222 => (if y222.length + y216.length < 5864062014805 then (some (a0_0, (y222 ++ y216))) else (none))) else (none)))) else (none))) else (none)) = some (r1, r2) := by first | (rw [hy209]; with_reducible exact H) | (have H2_ := (Option.bind_some _ _).symm.trans H; rw [hy209]; with_reducible exact H2_) | (have H2_ := (Option.bind_some _ _).symm.trans H; with_reducible exact H2_) | with_reducible exact H | (rw [hy209]; exact H) | exact H
       have Ny209 := Aside0.mk hy209
       clear hy209
       have c33b0 := eq_true (of_decide_eq_true AS : 0 ≤ x5_1)
       by_cases c34 : x5_1 ≤ (l0_1.length : Int)
       ·rw [if_pos c34] at H
        have c34b0 := eq_true c34
        have c34b1 : decide (x5_1 ≤ (l0_1.length : Int)) = true := decide_eq_true c34
        clear c34
        obtain ⟨y212, hy212⟩ : ∃ y_ : List (S49), y_ = (l0_1.drop (x5_1 : Int).toNat) := ⟨_, rfl⟩
        replace H : (if y209.length + y212.length < 5864062014805 then ((some (y209 ++ y212 : List (S49))).bind fun y216 => ((some (l0_1.take (x5_1 : Int).toNat : List (S49))).bind fun y219 => (if y219.length < 5864062014805 then ((some (y219 ++ [(⟨a1_0, a1_1⟩ : S49)] : List (S49))).bind fun y222 => (if y222.length + y216.length < 5864062014805 then (some (a0_0, (y222 ++ y216))) else (none))) else (none)))) else (none)) = some (r1, r2) := by first | (rw [hy212]; with_reducible exact H) | (have H2_ := (Option.bind_some _ _).symm.trans H; rw [hy212]; with_reducible exact H2_) | (have H2_ := (Option.bind_some _ _).symm.trans H; with_reducible exact H2_) | with_reducible exact H | (rw [hy212]; exact H) | exact H
        have Ny212 := Aside0.mk hy212
        clear hy212
        by_cases c35 : y209.length + y212.length < 5864062014805
        ·rw [if_pos c35] at H
         have LMc35 := Aside0.mk c35
         clear c35
         obtain ⟨y216, hy216⟩ : ∃ y_ : List (S49), y_ = (y209 ++ y212) := ⟨_, rfl⟩
         replace H : ((some (l0_1.take (x5_1 : Int).toNat : List (S49))).bind fun y219 => (if y219.length < 5864062014805 then ((some (y219 ++ [(⟨a1_0, a1_1⟩ : S49)] : List (S49))).bind fun y222 => (if y222.length + y216.length < 5864062014805 then (some (a0_0, (y222 ++ y216))) else (none))) else (none))) = some (r1, r2) := by first | (rw [hy216]; with_reducible exact H) | (have H2_ := (Option.bind_some _ _).symm.trans H; rw [hy216]; with_reducible exact H2_) | (have H2_ := (Option.bind_some _ _).symm.trans H; with_reducible exact H2_) | with_reducible exact H | (rw [hy216]; exact H) | exact H
         have Ny216 := Aside0.mk hy216
         clear hy216
         have c36b0 := eq_true (of_decide_eq_true AS : x5_1 ≤ (l0_1.length : Int))
         obtain ⟨y219, hy219⟩ : ∃ y_ : List (S49), y_ = (l0_1.take (x5_1 : Int).toNat) := ⟨_, rfl⟩
         replace H : (if y219.length < 5864062014805 then ((some (y219 ++ [(⟨a1_0, a1_1⟩ : S49)] : List (S49))).bind fun y222 => (if y222.length + y216.length < 5864062014805 then (some (a0_0, (y222 ++ y216))) else (none))) else (none)) = some (r1, r2) := by first | (rw [hy219]; with_reducible exact H) | (have H2_ := (Option.bind_some _ _).symm.trans H; rw [hy219]; with_reducible exact H2_) | (have H2_ := (Option.bind_some _ _).symm.trans H; with_reducible exact H2_) | with_reducible exact H | (rw [hy219]; exact H) | exact H
         have Ny219 := Aside0.mk hy219
         clear hy219
         by_cases c37 : y219.length < 5864062014805
         ·rw [if_pos c37] at H
          have LMc37 := Aside0.mk c37
          clear c37
          obtain ⟨y222, hy222⟩ : ∃ y_ : List (S49), y_ = (y219 ++ [(⟨a1_0, a1_1⟩ : S49)]) := ⟨_, rfl⟩
          replace H : (if y222.length + y216.length < 5864062014805 then (some (a0_0, (y222 ++ y216))) else (none)) = some (r1, r2) := by first | (rw [hy222]; with_reducible exact H) | (have H2_ := (Option.bind_some _ _).symm.trans H; rw [hy222]; with_reducible exact H2_) | (have H2_ := (Option.bind_some _ _).symm.trans H; with_reducible exact H2_) | with_reducible exact H | (rw [hy222]; exact H) | exact H
          have Ny222 := Aside0.mk hy222
          clear hy222
          by_cases c38 : y222.length + y216.length < 5864062014805
          ·rw [if_pos c38] at H
           have LMc38 := Aside0.mk c38
           clear c38
           obtain ⟨y225, hy225⟩ : ∃ y_ : List (S49), y_ = (y222 ++ y216) := ⟨_, rfl⟩
           replace H : (some (a0_0, y225)) = some (r1, r2) := by first | (rw [hy225]; with_reducible exact H) | (have H2_ := (Option.bind_some _ _).symm.trans H; rw [hy225]; with_reducible exact H2_) | (have H2_ := (Option.bind_some _ _).symm.trans H; with_reducible exact H2_) | with_reducible exact H | (rw [hy225]; exact H) | exact H
           have Ny225 := Aside0.mk hy225
           clear hy225
           simp only [Option.some.injEq, Prod.mk.injEq] at H
           obtain ⟨rfl, rfl⟩ := H
           try go_wp2
           have n_ : _ ∧ _ ∧ _ ∧ _ ∧ _ ∧ _ := ⟨AsM (Kd.R_drew HO_204001.out), AsM (blk_drew BK203.out), AsM (blk_drew BK204.out), AsM (blk_drew BK205.out), AsM (Kept.drew HK.out), AsM (below_drew1 HB.out)⟩
           clear HO_204001 BK203 BK204 BK205 HK HB
           obtain ⟨HO_204001, BK203, BK204, BK205, HK, HB⟩ := n_
           have p207 : 0 ≤ (x5_1 : Int) := of_decide_eq_true AS
           have q207 : x5_1 < (l0_1.length : Int) := of_decide_eq_true AS
           obtain ⟨ad207, e207, hx207_0, hx207_1⟩ := at_T49 (Kd.R_reads' HO_204001.out).2.2 x5_1 p207 q207
           cases e207
           replace p207 := eq_true p207
           replace q207 := eq_true q207
           refine start_ (n := 14) (S := fun w' => w'.cell? ⟨gb203, 0, none⟩ = some (.int .i64 a0_0) ∧ w'.cell? ⟨gb203, 1, none⟩ = some (.slice (some ad207) l0_1.length co17) ∧ w'.cell? ⟨gb204, 0, none⟩ = some (.int .i64 a1_0) ∧ w'.cell? ⟨gb204, 1, none⟩ = some (.string a1_1) ∧ w'.cell? (ad207.add ((x5_1).toNat * 2)) = some (.int .i64 ((rd_T49 l0_1 x5_1).f0)) ∧ w'.cell? ⟨(ad207.add ((x5_1).toNat * 2)).block, (ad207.add ((x5_1).toNat * 2)).off + 1, none⟩ = some (.string ((rd_T49 l0_1 x5_1).f1))) (ds := []) #[false, false, false, false, false, false, false, false, false, false, false, false, false, false] (by kernel_rfl) rfl rfl ⟨(blk_cell BK203.out 0).trans rfl, (blk_cell BK203.out 1).trans rfl, (blk_cell BK204.out 0).trans rfl, (blk_cell BK204.out 1).trans rfl, hx207_0, hx207_1⟩ (fun hHeld => ?_); refine with_tabW spec_l19Put.tab4 spec_l19Put.bits4 (fun HT_ HW_ => ?_)
           generalize wr.drew = w39 at HO_204001 BK203 BK204 BK205 HK HB hx207_0 hx207_1 hHeld ⊢
           refine PU (i := 0) (N := some 12) (tf 1 13) rfl rfl HT_ ?_
           refine PU (i := 1) (N := some 13) (tf 2 12) rfl rfl HT_ ?_
           refine PT (i := 2) (N := some 14) (tf 3 11) rfl rfl HT_ HW_ hHeld ?_
           refine PU (i := 3) (N := some 15) (tf 4 10) rfl rfl HT_ ?_
           refine PU (i := 4) (N := some 16) (tf 5 9) rfl rfl HT_ ?_
           refine PU (i := 5) (N := some 17) (tf 6 8) rfl rfl HT_ ?_
           refine PU (i := 6) (N := some 18) (tf 7 7) rfl rfl HT_ ?_
           refine PU (i := 8) (N := some 20) #[true, true, true, true, true, true, true, false, true, false, false, false, false, false] rfl rfl HT_ ?_
           refine PT (i := 7) (N := some 19) (tf 9 5) rfl rfl HT_ HW_ hHeld ?_
           refine PU (i := 9) (N := some 21) (tf 10 4) rfl rfl HT_ ?_
           refine PT (i := 10) (N := some 22) (tf 11 3) rfl rfl HT_ HW_ hHeld ?_
           refine PT (i := 11) (N := some 23) (tf 12 2) rfl rfl HT_ HW_ hHeld ?_
           refine one_ (i := 12) (N := some 24) (tf 13 1) rfl rfl (one_of HT_.out (by kernel_rfl)) (by decide) (fun K hK => ?_)
           refine goes_ Try.func56 (by kernel_rfl) rfl #[.agg #[.int .i64 ((rd_T49 l0_1 x5_1).f0), .string ((rd_T49 l0_1 x5_1).f1)], .agg #[.int .i64 a1_0, .string a1_1]] (by rfl) rfl rfl AQ ?_
           with_reducible refine (spec_l19Before.calls ((rd_T49 l0_1 x5_1).f0) ((rd_T49 l0_1 x5_1).f1) a1_0 a1_1 false _ A29.out).mono ?_
           rintro e w40 ⟨rfl, hb⟩
           have HS4_ := (hb.cell (World.block_lt_of_cell? _ _ (hHeld.2.2.2.2.1))).trans (hHeld.2.2.2.2.1)
           have HS5_ := (hb.cell (World.block_lt_of_cell? _ _ (hHeld.2.2.2.2.2))).trans (hHeld.2.2.2.2.2)
           refine ⟨_, rfl, ?_⟩
           have n_ : _ ∧ _ ∧ _ ∧ _ ∧ _ ∧ _ := ⟨AsM (Kd.R_below (RD HO_204001) hb), AsM (blk_below (BD BK203) hb), AsM (blk_below (BD BK204) hb), AsM (blk_below (BD BK205) hb), AsM (Kept.below (S := (fun k_ => P0_1_ k_)) (spec_l19Put.z0) hb), AsM (below_step BG hb)⟩
           clear HO_204001 BK203 BK204 BK205 HK HB
           obtain ⟨HO_204001, BK203, BK204, BK205, HK, HB⟩ := n_
           (try clear hb)
           (try clear hb2)
           (try clear hk)
           (try clear hi)
           refine hK.out _ _ ⟨(blk_cell BK203.out 0).trans rfl, (blk_cell BK203.out 1).trans rfl, (blk_cell BK204.out 0).trans rfl, (blk_cell BK204.out 1).trans rfl, HS4_, HS5_⟩ (fun hHeld => ?_)
           clear hK K
           refine NM (some 24) ?_
           refine PU (i := 13) (N := some 25) (tf 14 0) rfl rfl HT_ ?_
           refine done_ (done_of HT_.out (by kernel_rfl)) ?_
           try go_wp2_with (first | ((with_reducible refine gate_dst (N := 28) rfl ?_); refine Kd.R_lit k49 _ 49 ?hg (N := 28) ?hd (xs := ([] : List (S49))) (inner := []) (ok := fun _ => True) (okp := fun _ => True) ?hr ?hp (fun _ hk => hk) trivial (Below.refl _ _) (Nat.le_refl _) (by simp) ?_; (case hd => rfl); (case hg => rfl); (case hr => first | (go_simp; done) | (go_simp; rfl)); (case hp => exact (Reps.none _ _)); intro v210 w41 ho42 hb hg_ hnew_; clear hg_ hnew_; (first | rw [← Ny209.out] at ho42 | (simp only [Int.reduceToNat] at ho42; rw [← Ny209.out] at ho42)); have n_ : _ ∧ _ ∧ _ ∧ _ ∧ _ ∧ _ ∧ _ := ⟨AsM (Kd.R_elder' (RD HO_204001) (Kd.R_base ho42) hb), AsM (Kd.R_lower (Kd.R_newB (Kd.R_new' (Kd.R_newM (M := fun k_ => (P0_1_ k_ ∨ w.heap.size ≤ k_)) ho42 (spec_l19Put.z1) (fun k_ h_ => .inr h_)) (Kd.R_lt (RD HO_204001))) (g := gb204) (o := .cells #[.int .i64 a1_0, .string a1_1] 49 (0, 0)) (BD BK204)) (below_size BG)), AsM (blk_below (BD BK203) hb), AsM (blk_below (BD BK204) hb), AsM (blk_below (BD BK205) hb), AsM (Kept.below (S := (fun k_ => P0_1_ k_)) (spec_l19Put.z0) hb), AsM (below_step BG hb)⟩; clear HO_204001 BK203 BK204 BK205 HK HB; obtain ⟨HO_204001, HO211, BK203, BK204, BK205, HK, HB⟩ := n_; clear hb ho42; have hnb43 := NB203_204.out; have hnc43 := NB204_203.out; have hnb44 := NB203_205.out; have hnc44 := NB205_203.out; obtain ⟨hcz45_0, hcz45_1, hfz45_0, hfz45_1⟩ := bk2 BK203.out; have q46 : (x5_1 : Int) ≤ ((l0_1.length : Int) : Int) := of_decide_eq_true AS; obtain ⟨i046, hi046, _, hsz46, _⟩ := info_parts info49; have hroom46 : l0_1.length ≤ co17 := (Kd.R_reads' HO_204001.out).2.1; have hC46 : Kd.C k49 _ (some ad207) l0_1.length l0_1 := (Kd.R_reads' HO_204001.out).2.2; have q046 : (0 : Int) ≤ (x5_1 : Int) := of_decide_eq_true AS; have hcut46 := cut_from (P := Try.prog) 23 49 .i64 Try.underlying23 hi046 2 hsz46 (some ad207) l0_1.length co17 x5_1 q046 q46; have hr46 := Kd.C_drop (m := (x5_1 : Int).toNat) (c := co17) hC46 (by omega) hroom46; obtain ⟨A46, hA46⟩ : ∃ A1, A1 = (if co17 = (x5_1 : Int).toNat then (some ad207) else ((some ad207) : Option Addr).map (·.add ((x5_1 : Int).toNat * 2))) := ⟨_, rfl⟩; obtain ⟨c46, hc46⟩ : ∃ c1, c1 = co17 - (x5_1 : Int).toNat := ⟨_, rfl⟩; have hy46 : y212.length = l0_1.length - (x5_1 : Int).toNat := (by rw [Ny212.out, List.length_drop] <;> omega); rw [show (l0_1).drop (x5_1 : Int).toNat = y212 from Ny212.out.symm] at hr46; replace hr46 : Kd.C k49 _ A46 y212.length y212 := (by rw [hA46]; exact hr46); rw [← hy46, ← hA46, ← hc46] at hcut46; have HR215 := Aside0.mk hr46; have HC215 := Aside0.mk (show y212.length ≤ c46 from by rw [hy46, hc46]; exact Nat.sub_le_sub_right hroom46 _); clear hr46 hC46 hroom46 hi046 hsz46 hc46; have KY46 := Aside0.mk hy46; have KA46 := Aside0.mk hA46; clear hy46 hA46; have KL46 := Aside0.mk (show (x5_1 : Int).toNat ≤ l0_1.length from by omega); replace q46 := eq_true q46) | ((with_reducible refine gate_builtin (b := .append) (xs := #[.tmp 28, .tmp 32]) rfl ?_); at_builtin; refine Kd.R_append_rows k49 (w0 := w0) w0.heap.size rfl (.tmp 28) (.tmp 32) 23 49 (.agg #[(.int .i64 0), (.string ⟨#[]⟩)]) 24 rfl Try.underlying23 info49 rfl (by decide) (by omega) v210 y209 y212 _ _ _ (fun k_ => (P0_1_ k_ ∨ w.heap.size ≤ k_) ∧ some k_ ≠ (.slice (some ad207) l0_1.length co17 : Value).ownBlock ∧ k_ ≠ gb204) (fun _ => False) rfl rfl ?aO ?aR (fun _ _ h => h) (fun _ h => h.elim) ?aF ?aB ?aS ?aL ?_; (case aR => repeat (first | exact (by repeat (first | (with_reducible exact HR215.out) | (with_reducible refine Kd.C_alloc ?_ _) | (with_reducible refine Kd.C_drewN ?_ _) | (with_reducible refine Kd.C_drew ?_) | exact HR215.out)) | (with_reducible refine Kd.C_alloc ?_ _) | (with_reducible refine Kd.C_drewN ?_ _) | (with_reducible refine Kd.C_drew ?_))); (case aB => exact BG); (case aF => exact (fun k_ hk => ⟨(.inr (Nat.le_trans (spec_l19Put.z1) hk)), Kd.fresh' (Kd.R_lt (RD HO_204001)) k_ hk, Kd.freshB (g := gb204) (o := .cells #[.int .i64 a1_0, .string a1_1] 49 (0, 0)) (BD BK204) k_ hk⟩)); (case aO => exact (by refine PRx ?_; exact Kd.R_mono HO211.out (fun _ hk => ⟨hk.1.1.1, ⟨hk.1.2, hk.2⟩⟩))); (case aS => exact (below_size BG)); (case aL => have := LMc35.out; omega); intro v217 w47 ho hb hg hat; rw [← Ny216.out] at ho; have n_ : _ ∧ _ ∧ _ ∧ _ ∧ _ ∧ _ ∧ _ ∧ _ := ⟨AsM (Kd.R_after (ok := (fun k_ => (P0_1_ k_ ∨ w.heap.size ≤ k_) ∧ k_ ≠ gb204)) (RD HO_204001) hg hat), AsM (blk_grown (g := gb203) (o := .cells #[.int .i64 a0_0, .slice (some ad207) l0_1.length co17] 25 (0, 0)) (BD BK203) hg (Kd.R_ne HO211.out BK203.out (by decide))), AsM (blk_grown (g := gb204) (o := .cells #[.int .i64 a1_0, .string a1_1] 49 (0, 0)) (BD BK204) hg (Kd.R_away HO211.out (fun _ hk => hk.2))), AsM (blk_grown (g := gb205) (o := .cells #[.int .i64 0, .slice none 0 0] 25 (0, 0)) (BD BK205) hg (Kd.R_ne HO211.out BK205.out (by decide))), AsM (hb), AsM (Kept.of_grown (S := (fun k_ => P0_1_ k_)) hg (spec_l19Put.z0) (fun k_ e_ => (HO211.out.1 k_ e_).1.1.1)), AsM ((show Kd.C k49 w47 A46 y212.length y212 from by rw [Ny212.out, KA46.out]; exact Kd.C_drop (m := (x5_1 : Int).toNat) (c := co17) ((Kd.R_reads' (Kd.R_after (ok := (fun k_ => (P0_1_ k_ ∨ w.heap.size ≤ k_) ∧ k_ ≠ gb204)) (RD HO_204001) hg hat)).2.2) KL46.out ((Kd.R_reads' (Kd.R_after (ok := (fun k_ => (P0_1_ k_ ∨ w.heap.size ≤ k_) ∧ k_ ≠ gb204)) (RD HO_204001) hg hat)).2.1))), AsM (ho)⟩; clear HO_204001 BK203 BK204 BK205 HB HK HR215 HO211; obtain ⟨HO_204001, BK203, BK204, BK205, HB, HK, HR215, HO218⟩ := n_; clear ho hb hg hat))
           have n_ : _ ∧ _ ∧ _ ∧ _ ∧ _ ∧ _ ∧ _ ∧ _ := ⟨AsM (Kd.R_drew HO_204001.out), AsM (Kd.R_drew HO218.out), AsM (blk_drew BK203.out), AsM (blk_drew BK204.out), AsM (blk_drew BK205.out), AsM (Kd.C_drew HR215.out), AsM (Kept.drew HK.out), AsM (below_drew1 HB.out)⟩
           clear HO_204001 HO218 BK203 BK204 BK205 HR215 HK HB
           obtain ⟨HO_204001, HO218, BK203, BK204, BK205, HR215, HK, HB⟩ := n_
           have q49 : (x5_1 : Int) ≤ ((l0_1.length : Int) : Int) := of_decide_eq_true AS
           obtain ⟨i049, hi049, _, hsz49, _⟩ := info_parts info49
           have hcut49 := cut_to (P := Try.prog) 23 49 .i64 Try.underlying23 hi049 (some ad207) l0_1.length co17 x5_1 (of_decide_eq_true AS) q49 (Kd.R_reads' HO_204001.out).2.1
           have hr49 := Kd.R_take (m := (x5_1 : Int).toNat) HO_204001.out (by omega)
           have hy49 : y219.length = (x5_1 : Int).toNat := (by rw [Ny219.out, List.length_take]; omega)
           rw [← Ny219.out] at hr49
           rw [← hy49] at hr49 hcut49
           clear hy49 hi049 hsz49 HO_204001
           have HO221 := Aside0.mk hr49
           clear hr49
           replace q49 := eq_true q49
           refine start_ (n := 11) (S := fun w' => w'.cell? ⟨gb203, 0, none⟩ = some (.int .i64 a0_0) ∧ w'.cell? ⟨gb203, 1, none⟩ = some (.slice (some ad207) l0_1.length co17) ∧ w'.cell? ⟨gb204, 0, none⟩ = some (.int .i64 a1_0) ∧ w'.cell? ⟨gb204, 1, none⟩ = some (.string a1_1)) (ds := [10]) #[false, false, false, false, false, false, false, false, false, false, false] (by kernel_rfl) rfl rfl ⟨(blk_cell BK203.out 0).trans rfl, (blk_cell BK203.out 1).trans rfl, (blk_cell BK204.out 0).trans rfl, (blk_cell BK204.out 1).trans rfl⟩ (fun hHeld => ?_); refine with_tabW spec_l19Put.tab7 spec_l19Put.bits7 (fun HT_ HW_ => ?_)
           generalize w47.drew = w48 at HO218 BK203 BK204 BK205 HR215 HK HB HO221 hHeld ⊢
           refine PU (i := 0) (N := some 34) (tf 1 10) rfl rfl HT_ ?_
           refine PU (i := 2) (N := some 36) #[true, false, true, false, false, false, false, false, false, false, false] rfl rfl HT_ ?_
           refine PU (i := 7) (N := some 41) #[true, false, true, false, false, false, false, true, false, false, false] rfl rfl HT_ ?_
           refine PT (i := 1) (N := some 35) #[true, true, true, false, false, false, false, true, false, false, false] rfl rfl HT_ HW_ hHeld ?_
           refine PU (i := 3) (N := some 37) #[true, true, true, true, false, false, false, true, false, false, false] rfl rfl HT_ ?_
           refine PT (i := 4) (N := some 38) #[true, true, true, true, true, false, false, true, false, false, false] rfl rfl HT_ HW_ hHeld ?_
           refine one_ (i := 5) (N := some 39) #[true, true, true, true, true, true, false, true, false, false, false] rfl rfl (one_of HT_.out (by kernel_rfl)) (by decide) (fun K hK => ?_)
           refine value_ (w1 := ?_) (v := ?_) (by rfl) rfl ?_ ?_
           rotate_left 2
           ·go_simp
            constructor
            ·rfl
            ·rfl
           refine hK.out _ _ ⟨(blk_cell (blk_alloc BK203.out _) 0).trans rfl, (blk_cell (blk_alloc BK203.out _) 1).trans rfl, (blk_cell (blk_alloc BK204.out _) 0).trans rfl, (blk_cell (blk_alloc BK204.out _) 1).trans rfl⟩ (fun hHeld => ?_)
           clear hK K
           refine NM (some 39) ?_
           refine one_ (i := 6) (N := some 40) (tf 8 3) rfl rfl (one_of HT_.out (by kernel_rfl)) (by decide) (fun K hK => ?_)
           refine Kd.R_append_step k49 (w0 := w0) w0.heap.size (by rfl) (.tmp 37) (.tmp 39) 23 49 (.agg #[(.int .i64 0), (.string ⟨#[]⟩)]) 24 rfl Try.underlying23 info49 rfl (by decide) (by omega) (.slice (some ad207) y219.length co17) y219 (⟨a1_0, a1_1⟩ : S49) [.int .i64 a1_0, .string a1_1] (fun k_ => (P0_1_ k_ ∨ w.heap.size ≤ k_) ∧ some k_ ≠ (v217 : Value).ownBlock ∧ k_ ≠ gb204) (fun _ => False) rfl rfl ?aP (fun _ hk => hk.elim) ?aF ?aO ?aB ?aS ?aL ?_
           (case aP => exact k49_mkM _ _ _ (⟨a1_0, a1_1⟩ : S49))
           (case aB => exact BG)
           (case aF => exact (fun k_ hk => ⟨(.inr (Nat.le_trans (spec_l19Put.z1) hk)), Kd.fresh' (Kd.R_lt (RD HO218)) k_ hk, Kd.freshB (g := gb204) (o := .cells #[.int .i64 a1_0, .string a1_1] 49 (0, 0)) (BD BK204) k_ hk⟩))
           (case aO => exact (by refine PRx ?_; exact Kd.R_mono HO221.out (fun _ hk => ⟨hk.1.1, ⟨hk.2, hk.1.2⟩⟩)))
           (case aS => exact (below_size BG))
           (case aL => have := LMc37.out; omega)
           intro v223 w50 ho hb hg hat
           rw [← Ny222.out] at ho
           have n_ : _ ∧ _ ∧ _ ∧ _ ∧ _ ∧ _ ∧ _ := ⟨AsM (blk_grown (g := gb203) (o := .cells #[.int .i64 a0_0, .slice (some ad207) l0_1.length co17] 25 (0, 0)) (BD BK203) hg (Kd.R_ne HO221.out BK203.out (by decide))), AsM (blk_grown (g := gb204) (o := .cells #[.int .i64 a1_0, .string a1_1] 49 (0, 0)) (BD BK204) hg (Kd.R_away HO221.out (fun _ hk => hk.1.2))), AsM (blk_grown (g := gb205) (o := .cells #[.int .i64 0, .slice none 0 0] 25 (0, 0)) (BD BK205) hg (Kd.R_ne HO221.out BK205.out (by decide))), AsM (Kd.R_after (ok := (fun k_ => (P0_1_ k_ ∨ w.heap.size ≤ k_) ∧ k_ ≠ gb204)) (by refine PRx ?_; exact Kd.R_mono HO218.out (fun _ hk => ⟨⟨hk.1, hk.2.2⟩, OL hk.2.1⟩)) hg hat), AsM (hb), AsM (Kept.of_grown (S := (fun k_ => P0_1_ k_)) hg (spec_l19Put.z0) (fun k_ e_ => (HO221.out.1 k_ e_).1.1)), AsM (ho)⟩
           clear BK203 BK204 BK205 HO218 HB HK HO221
           obtain ⟨BK203, BK204, BK205, HO218, HB, HK, HO224⟩ := n_
           clear ho hb hg hat
           obtain ⟨Ao52, co52, eo52⟩ := Kd.R_slice HO218.out
           (first | subst eo52 | (injection eo52 with f1_ f2_ f3_; have f4_ := f1_.symm; have f5_ := f3_.symm; clear f1_ f2_ f3_; subst f4_; subst f5_))
           refine hK.out _ _ ⟨(blk_cell BK203.out 0).trans rfl, (blk_cell BK203.out 1).trans rfl, (blk_cell BK204.out 0).trans rfl, (blk_cell BK204.out 1).trans rfl⟩ (fun hHeld => ?_)
           clear hK K
           refine NM (some 40) ?_
           refine one_ (i := 8) (N := some 42) (tf 9 2) rfl rfl (one_of HT_.out (by kernel_rfl)) (by decide) (fun K hK => ?_)
           refine Kd.R_append_rows_step k49 (w0 := w0) w0.heap.size (by rfl) (.tmp 40) (.tmp 41) 23 49 (.agg #[(.int .i64 0), (.string ⟨#[]⟩)]) 24 rfl Try.underlying23 info49 rfl (by decide) (by omega) v223 y222 y216 _ _ _ (fun k_ => (P0_1_ k_ ∨ w.heap.size ≤ k_) ∧ some k_ ≠ (.slice Ao52 y216.length co52 : Value).ownBlock ∧ k_ ≠ gb204) (fun _ => False) rfl rfl ?aO ?aR (fun _ _ h => h) (fun _ h => h.elim) ?aF ?aB ?aS ?aL ?_
           (case aR => repeat (first | exact (Kd.R_reads' HO218.out).2.2 | (with_reducible refine Kd.C_alloc ?_ _) | (with_reducible refine Kd.C_drewN ?_ _) | (with_reducible refine Kd.C_drew ?_)))
           (case aB => exact BG)
           (case aF => exact (fun k_ hk => ⟨(.inr (Nat.le_trans (spec_l19Put.z1) hk)), Kd.fresh' (Kd.R_lt (RD HO218)) k_ hk, Kd.freshB (g := gb204) (o := .cells #[.int .i64 a1_0, .string a1_1] 49 (0, 0)) (BD BK204) k_ hk⟩))
           (case aO => exact (RD HO224))
           (case aS => exact (below_size BG))
           (case aL => have := LMc38.out; omega)
           intro v226 w51 ho hb hg hat
           rw [← Ny225.out] at ho
           have n_ : _ ∧ _ ∧ _ ∧ _ ∧ _ ∧ _ ∧ _ := ⟨AsM (blk_grown (g := gb203) (o := .cells #[.int .i64 a0_0, .slice (some ad207) l0_1.length co17] 25 (0, 0)) (BD BK203) hg (Kd.R_ne HO224.out BK203.out (by decide))), AsM (blk_grown (g := gb204) (o := .cells #[.int .i64 a1_0, .string a1_1] 49 (0, 0)) (BD BK204) hg (Kd.R_away HO224.out (fun _ hk => hk.2.2))), AsM (blk_grown (g := gb205) (o := .cells #[.int .i64 0, .slice none 0 0] 25 (0, 0)) (BD BK205) hg (Kd.R_ne HO224.out BK205.out (by decide))), AsM (Kd.R_after (ok := (fun k_ => (P0_1_ k_ ∨ w.heap.size ≤ k_) ∧ k_ ≠ gb204)) (RD HO218) hg hat), AsM (hb), AsM (Kept.of_grown (S := (fun k_ => P0_1_ k_)) hg (spec_l19Put.z0) (fun k_ e_ => (HO224.out.1 k_ e_).1)), AsM (ho)⟩
           clear BK203 BK204 BK205 HO218 HB HK HO224
           obtain ⟨BK203, BK204, BK205, HO218, HB, HK, HO227⟩ := n_
           clear ho hb hg hat
           obtain ⟨Ao53, co53, eo53⟩ := Kd.R_slice HO227.out
           (first | subst eo53 | (injection eo53 with f1_ f2_ f3_; have f4_ := f1_.symm; have f5_ := f3_.symm; clear f1_ f2_ f3_; subst f4_; subst f5_))
           refine hK.out _ _ ⟨(blk_cell BK203.out 0).trans rfl, (blk_cell BK203.out 1).trans rfl, (blk_cell BK204.out 0).trans rfl, (blk_cell BK204.out 1).trans rfl⟩ (fun hHeld => ?_)
           clear hK K
           refine NM (some 42) ?_
           refine PU (i := 9) (N := some 43) (tf 10 1) rfl rfl HT_ ?_
           refine last_ (i := 10) (N := none) #[true, true, true, true, true, true, true, true, true, true, true] rfl rfl (one_of HT_.out (by kernel_rfl)) (by decide) (fun K hK => ?_)
           have hs54 : w51.cell? ⟨gb203, 1, none⟩ = some (.slice (some ad207) l0_1.length co17) := (blk_cell BK203.out 1).trans rfl
           have hfs54 := blk_frozen BK203.out 1
           have hns54_1 := NB204_203.out
           have hns54_2 := NB205_203.out
           have hms54_1 := NB203_204.out
           have hms54_2 := NB203_205.out
           refine skip_ (w1 := ?_) (by rfl) rfl ?_ ?_
           rotate_left
           ·go_simp
            rfl
           refine hK.out _ _ ?_
           clear hK K
           refine done_ (done_of HT_.out (by kernel_rfl)) ?_
           obtain ⟨hcz55_0, hcz55_1, hfz55_0, hfz55_1⟩ := bk2 BK203.out
           have hnb56 := NB205_204.out
           have hnc56 := NB204_205.out
           obtain ⟨hcz57_0, hcz57_1, hfz57_0, hfz57_1⟩ := bk2 BK205.out
           try go_wp2
           refine bodyPost_ret (results_cell_row rfl _ _ gb205 25 #[.int .i64 a0_0, .slice Ao53 y225.length co53] (0, 0) _ rfl (by refine PX ?_; refine blk_put (cs := #[.int .i64 a0_0, .slice none 0 0]) ?_ 1 _ rfl; refine PX ?_; refine blk_put (cs := #[.int .i64 0, .slice none 0 0]) ?_ 0 _ rfl; refine PX ?_; refine blk_far ?_ NB205_203.out _; exact BD BK205) Try.underlying25 rfl (by kernel_rfl)) rfl ?_
           exact ⟨_, ER, by refine PRx ?_; exact Kd.R_mono (FR (FR (Kd.R_far (p := ⟨gb203, 1, none⟩) (Kd.R_types (Kd.R_types HO227.out BK203.out (by decide)) BK205.out (by decide)) (fun _ hk => hk.1.2) (.slice Ao53 y225.length co53)))) (fun _ hk => hk.1.1.1), spec_l19Put.z2, spec_l19Put.z0⟩
          ·rw [if_neg c38] at H
           exact absurd H (by simp)
         ·rw [if_neg c37] at H
          exact absurd H (by simp)
        ·rw [if_neg c35] at H
         exact absurd H (by simp)
       ·rw [if_neg c34] at H
        exact absurd H (by simp)
     ·rw [if_neg c28] at H
      exact absurd H (by simp)
    ·rw [if_neg c27] at H
     have c27b0 : decide (x5_1 < (l0_1.length : Int)) = false := decide_eq_false c27
     clear c27
     obtain ⟨y228, hy228⟩ : ∃ y_ : List (S49), y_ = (([] : List (S49))) := ⟨_, rfl⟩
     replace H : (if 0 ≤ x5_1 then (if x5_1 ≤ (l0_1.length : Int) then ((some (l0_1.drop (x5_1 : Int).toNat : List (S49))).bind fun y231 => (if y228.length + y231.length < 5864062014805 then ((some (y228 ++ y231 : List (S49))).bind fun y235 => ((some (l0_1.take (x5_1 : Int).toNat : List (S49))).bind fun y238 => (if y238.length < 5864062014805 then ((some (y238 ++ [(⟨a1_0, a1_1⟩ : S49)] : List (S49))).bind fun y241 => (if y241.length + y235.length < 5864062014805 then (some (a0_0, (y241 ++ y235))) else (none))) else (none)))) else (none))) else (none)) else (none)) = some (r1, r2) := by first | (rw [hy228]; with_reducible exact H) | (have H2_ := (Option.bind_some _ _).symm.trans H; rw [hy228]; with_reducible exact H2_) | (have H2_ := (Option.bind_some _ _).symm.trans H; with_reducible exact H2_) | with_reducible exact H | (rw [hy228]; exact H) | exact H
     have Ny228 := Aside0.mk hy228
     clear hy228
     by_cases c58 : 0 ≤ x5_1
     ·rw [if_pos c58] at H
      have c58b0 := eq_true c58
      have c58b1 : decide (0 ≤ x5_1) = true := decide_eq_true c58
      clear c58
      by_cases c59 : x5_1 ≤ (l0_1.length : Int)
      ·rw [if_pos c59] at H
       have c59b0 := eq_true c59
       have c59b1 : decide (x5_1 ≤ (l0_1.length : Int)) = true := decide_eq_true c59
       clear c59
       obtain ⟨y231, hy231⟩ : ∃ y_ : List (S49), y_ = (l0_1.drop (x5_1 : Int).toNat) := ⟨_, rfl⟩
       replace H : (if y228.length + y231.length < 5864062014805 then ((some (y228 ++ y231 : List (S49))).bind fun y235 => ((some (l0_1.take (x5_1 : Int).toNat : List (S49))).bind fun y238 => (if y238.length < 5864062014805 then ((some (y238 ++ [(⟨a1_0, a1_1⟩ : S49)] : List (S49))).bind fun y241 => (if y241.length + y235.length < 5864062014805 then (some (a0_0, (y241 ++ y235))) else (none))) else (none)))) else (none)) = some (r1, r2) := by first | (rw [hy231]; with_reducible exact H) | (have H2_ := (Option.bind_some _ _).symm.trans H; rw [hy231]; with_reducible exact H2_) | (have H2_ := (Option.bind_some _ _).symm.trans H; with_reducible exact H2_) | with_reducible exact H | (rw [hy231]; exact H) | exact H
       have Ny231 := Aside0.mk hy231
       clear hy231
       by_cases c60 : y228.length + y231.length < 5864062014805
       ·rw [if_pos c60] at H
        have LMc60 := Aside0.mk c60
        clear c60
        obtain ⟨y235, hy235⟩ : ∃ y_ : List (S49), y_ = (y228 ++ y231) := ⟨_, rfl⟩
        replace H : ((some (l0_1.take (x5_1 : Int).toNat : List (S49))).bind fun y238 => (if y238.length < 5864062014805 then ((some (y238 ++ [(⟨a1_0, a1_1⟩ : S49)] : List (S49))).bind fun y241 => (if y241.length + y235.length < 5864062014805 then (some (a0_0, (y241 ++ y235))) else (none))) else (none))) = some (r1, r2) := by first | (rw [hy235]; with_reducible exact H) | (have H2_ := (Option.bind_some _ _).symm.trans H; rw [hy235]; with_reducible exact H2_) | (have H2_ := (Option.bind_some _ _).symm.trans H; with_reducible exact H2_) | with_reducible exact H | (rw [hy235]; exact H) | exact H
        have Ny235 := Aside0.mk hy235
        clear hy235
        have c61b0 := eq_true (of_decide_eq_true AS : x5_1 ≤ (l0_1.length : Int))
        obtain ⟨y238, hy238⟩ : ∃ y_ : List (S49), y_ = (l0_1.take (x5_1 : Int).toNat) := ⟨_, rfl⟩
        replace H : (if y238.length < 5864062014805 then ((some (y238 ++ [(⟨a1_0, a1_1⟩ : S49)] : List (S49))).bind fun y241 => (if y241.length + y235.length < 5864062014805 then (some (a0_0, (y241 ++ y235))) else (none))) else (none)) = some (r1, r2) := by first | (rw [hy238]; with_reducible exact H) | (have H2_ := (Option.bind_some _ _).symm.trans H; rw [hy238]; with_reducible exact H2_) | (have H2_ := (Option.bind_some _ _).symm.trans H; with_reducible exact H2_) | with_reducible exact H | (rw [hy238]; exact H) | exact H
        have Ny238 := Aside0.mk hy238
        clear hy238
        by_cases c62 : y238.length < 5864062014805
        ·rw [if_pos c62] at H
         have LMc62 := Aside0.mk c62
         clear c62
         obtain ⟨y241, hy241⟩ : ∃ y_ : List (S49), y_ = (y238 ++ [(⟨a1_0, a1_1⟩ : S49)]) := ⟨_, rfl⟩
         replace H : (if y241.length + y235.length < 5864062014805 then (some (a0_0, (y241 ++ y235))) else (none)) = some (r1, r2) := by first | (rw [hy241]; with_reducible exact H) | (have H2_ := (Option.bind_some _ _).symm.trans H; rw [hy241]; with_reducible exact H2_) | (have H2_ := (Option.bind_some _ _).symm.trans H; with_reducible exact H2_) | with_reducible exact H | (rw [hy241]; exact H) | exact H
         have Ny241 := Aside0.mk hy241
         clear hy241
         by_cases c63 : y241.length + y235.length < 5864062014805
         ·rw [if_pos c63] at H
          have LMc63 := Aside0.mk c63
          clear c63
          obtain ⟨y244, hy244⟩ : ∃ y_ : List (S49), y_ = (y241 ++ y235) := ⟨_, rfl⟩
          replace H : (some (a0_0, y244)) = some (r1, r2) := by first | (rw [hy244]; with_reducible exact H) | (have H2_ := (Option.bind_some _ _).symm.trans H; rw [hy244]; with_reducible exact H2_) | (have H2_ := (Option.bind_some _ _).symm.trans H; with_reducible exact H2_) | with_reducible exact H | (rw [hy244]; exact H) | exact H
          have Ny244 := Aside0.mk hy244
          clear hy244
          simp only [Option.some.injEq, Prod.mk.injEq] at H
          obtain ⟨rfl, rfl⟩ := H
          try go_wp2
          have n_ : _ ∧ _ ∧ _ ∧ _ ∧ _ ∧ _ := ⟨AsM (Kd.R_drew HO_204001.out), AsM (blk_drew BK203.out), AsM (blk_drew BK204.out), AsM (blk_drew BK205.out), AsM (Kept.drew HK.out), AsM (below_drew1 HB.out)⟩
          clear HO_204001 BK203 BK204 BK205 HK HB
          obtain ⟨HO_204001, BK203, BK204, BK205, HK, HB⟩ := n_
          refine start_ (n := 14) (S := fun w' => w'.cell? ⟨gb203, 0, none⟩ = some (.int .i64 a0_0) ∧ w'.cell? ⟨gb203, 1, none⟩ = some (.slice Ao17 l0_1.length co17)) (ds := []) #[false, false, false, false, false, false, false, false, false, false, false, false, false, false] (by kernel_rfl) rfl rfl ⟨(blk_cell BK203.out 0).trans rfl, (blk_cell BK203.out 1).trans rfl⟩ (fun hHeld => ?_); refine with_tabW spec_l19Put.tab4 spec_l19Put.bits4 (fun HT_ HW_ => ?_)
          generalize wr.drew = w64 at HO_204001 BK203 BK204 BK205 HK HB hHeld ⊢
          refine PU (i := 0) (N := some 12) (tf 1 13) rfl rfl HT_ ?_
          refine PU (i := 1) (N := some 13) (tf 2 12) rfl rfl HT_ ?_
          refine PT (i := 2) (N := some 14) (tf 3 11) rfl rfl HT_ HW_ hHeld ?_
          refine PU (i := 3) (N := some 15) (tf 4 10) rfl rfl HT_ ?_
          refine PU (i := 4) (N := some 16) (tf 5 9) rfl rfl HT_ ?_
          refine PU (i := 5) (N := some 17) (tf 6 8) rfl rfl HT_ ?_
          refine PN (i := 6) (N := some 18) (tf 7 7) rfl rfl HT_ ?_
          refine PN (i := 7) (N := some 19) (tf 8 6) rfl rfl HT_ ?_
          refine PN (i := 8) (N := some 20) (tf 9 5) rfl rfl HT_ ?_
          refine PN (i := 9) (N := some 21) (tf 10 4) rfl rfl HT_ ?_
          refine PN (i := 10) (N := some 22) (tf 11 3) rfl rfl HT_ ?_
          refine PN (i := 11) (N := some 23) (tf 12 2) rfl rfl HT_ ?_
          refine PN (i := 12) (N := some 24) (tf 13 1) rfl rfl HT_ ?_
          refine PU (i := 13) (N := some 25) (tf 14 0) rfl rfl HT_ ?_
          refine done_ (done_of HT_.out (by kernel_rfl)) ?_
          try go_wp2_with (first | ((with_reducible refine gate_dst (N := 28) rfl ?_); refine Kd.R_lit k49 _ 49 ?hg (N := 28) ?hd (xs := ([] : List (S49))) (inner := []) (ok := fun _ => True) (okp := fun _ => True) ?hr ?hp (fun _ hk => hk) trivial (Below.refl _ _) (Nat.le_refl _) (by simp) ?_; (case hd => rfl); (case hg => rfl); (case hr => first | (go_simp; done) | (go_simp; rfl)); (case hp => exact (Reps.none _ _)); intro v229 w65 ho66 hb hg_ hnew_; clear hg_ hnew_; (first | rw [← Ny228.out] at ho66 | (simp only [Int.reduceToNat] at ho66; rw [← Ny228.out] at ho66)); have n_ : _ ∧ _ ∧ _ ∧ _ ∧ _ ∧ _ ∧ _ := ⟨AsM (Kd.R_elder' (RD HO_204001) (Kd.R_base ho66) hb), AsM (Kd.R_lower (Kd.R_newB (Kd.R_new' (Kd.R_newM (M := fun k_ => (P0_1_ k_ ∨ w.heap.size ≤ k_)) ho66 (spec_l19Put.z1) (fun k_ h_ => .inr h_)) (Kd.R_lt (RD HO_204001))) (g := gb204) (o := .cells #[.int .i64 a1_0, .string a1_1] 49 (0, 0)) (BD BK204)) (below_size BG)), AsM (blk_below (BD BK203) hb), AsM (blk_below (BD BK204) hb), AsM (blk_below (BD BK205) hb), AsM (Kept.below (S := (fun k_ => P0_1_ k_)) (spec_l19Put.z0) hb), AsM (below_step BG hb)⟩; clear HO_204001 BK203 BK204 BK205 HK HB; obtain ⟨HO_204001, HO230, BK203, BK204, BK205, HK, HB⟩ := n_; clear hb ho66; have hnb67 := NB203_204.out; have hnc67 := NB204_203.out; have hnb68 := NB203_205.out; have hnc68 := NB205_203.out; obtain ⟨hcz69_0, hcz69_1, hfz69_0, hfz69_1⟩ := bk2 BK203.out; have q70 : (x5_1 : Int) ≤ ((l0_1.length : Int) : Int) := of_decide_eq_true AS; obtain ⟨i070, hi070, _, hsz70, _⟩ := info_parts info49; have hroom70 : l0_1.length ≤ co17 := (Kd.R_reads' HO_204001.out).2.1; have hC70 : Kd.C k49 _ Ao17 l0_1.length l0_1 := (Kd.R_reads' HO_204001.out).2.2; have q070 : (0 : Int) ≤ (x5_1 : Int) := of_decide_eq_true AS; have hcut70 := cut_from (P := Try.prog) 23 49 .i64 Try.underlying23 hi070 2 hsz70 Ao17 l0_1.length co17 x5_1 q070 q70; have hr70 := Kd.C_drop (m := (x5_1 : Int).toNat) (c := co17) hC70 (by omega) hroom70; obtain ⟨A70, hA70⟩ : ∃ A1, A1 = (if co17 = (x5_1 : Int).toNat then Ao17 else (Ao17 : Option Addr).map (·.add ((x5_1 : Int).toNat * 2))) := ⟨_, rfl⟩; obtain ⟨c70, hc70⟩ : ∃ c1, c1 = co17 - (x5_1 : Int).toNat := ⟨_, rfl⟩; have hy70 : y231.length = l0_1.length - (x5_1 : Int).toNat := (by rw [Ny231.out, List.length_drop] <;> omega); rw [show (l0_1).drop (x5_1 : Int).toNat = y231 from Ny231.out.symm] at hr70; replace hr70 : Kd.C k49 _ A70 y231.length y231 := (by rw [hA70]; exact hr70); rw [← hy70, ← hA70, ← hc70] at hcut70; have HR234 := Aside0.mk hr70; have HC234 := Aside0.mk (show y231.length ≤ c70 from by rw [hy70, hc70]; exact Nat.sub_le_sub_right hroom70 _); clear hr70 hC70 hroom70 hi070 hsz70 hc70; have KY70 := Aside0.mk hy70; have KA70 := Aside0.mk hA70; clear hy70 hA70; have KL70 := Aside0.mk (show (x5_1 : Int).toNat ≤ l0_1.length from by omega); replace q70 := eq_true q70) | ((with_reducible refine gate_builtin (b := .append) (xs := #[.tmp 28, .tmp 32]) rfl ?_); at_builtin; refine Kd.R_append_rows k49 (w0 := w0) w0.heap.size rfl (.tmp 28) (.tmp 32) 23 49 (.agg #[(.int .i64 0), (.string ⟨#[]⟩)]) 24 rfl Try.underlying23 info49 rfl (by decide) (by omega) v229 y228 y231 _ _ _ (fun k_ => (P0_1_ k_ ∨ w.heap.size ≤ k_) ∧ some k_ ≠ (.slice Ao17 l0_1.length co17 : Value).ownBlock ∧ k_ ≠ gb204) (fun _ => False) rfl rfl ?aO ?aR (fun _ _ h => h) (fun _ h => h.elim) ?aF ?aB ?aS ?aL ?_; (case aR => repeat (first | exact (by repeat (first | (with_reducible exact HR234.out) | (with_reducible refine Kd.C_alloc ?_ _) | (with_reducible refine Kd.C_drewN ?_ _) | (with_reducible refine Kd.C_drew ?_) | exact HR234.out)) | (with_reducible refine Kd.C_alloc ?_ _) | (with_reducible refine Kd.C_drewN ?_ _) | (with_reducible refine Kd.C_drew ?_))); (case aB => exact BG); (case aF => exact (fun k_ hk => ⟨(.inr (Nat.le_trans (spec_l19Put.z1) hk)), Kd.fresh' (Kd.R_lt (RD HO_204001)) k_ hk, Kd.freshB (g := gb204) (o := .cells #[.int .i64 a1_0, .string a1_1] 49 (0, 0)) (BD BK204) k_ hk⟩)); (case aO => exact (by refine PRx ?_; exact Kd.R_mono HO230.out (fun _ hk => ⟨hk.1.1.1, ⟨hk.1.2, hk.2⟩⟩))); (case aS => exact (below_size BG)); (case aL => have := LMc60.out; omega); intro v236 w71 ho hb hg hat; rw [← Ny235.out] at ho; have n_ : _ ∧ _ ∧ _ ∧ _ ∧ _ ∧ _ ∧ _ ∧ _ := ⟨AsM (Kd.R_after (ok := (fun k_ => (P0_1_ k_ ∨ w.heap.size ≤ k_) ∧ k_ ≠ gb204)) (RD HO_204001) hg hat), AsM (blk_grown (g := gb203) (o := .cells #[.int .i64 a0_0, .slice Ao17 l0_1.length co17] 25 (0, 0)) (BD BK203) hg (Kd.R_ne HO230.out BK203.out (by decide))), AsM (blk_grown (g := gb204) (o := .cells #[.int .i64 a1_0, .string a1_1] 49 (0, 0)) (BD BK204) hg (Kd.R_away HO230.out (fun _ hk => hk.2))), AsM (blk_grown (g := gb205) (o := .cells #[.int .i64 0, .slice none 0 0] 25 (0, 0)) (BD BK205) hg (Kd.R_ne HO230.out BK205.out (by decide))), AsM (hb), AsM (Kept.of_grown (S := (fun k_ => P0_1_ k_)) hg (spec_l19Put.z0) (fun k_ e_ => (HO230.out.1 k_ e_).1.1.1)), AsM ((show Kd.C k49 w71 A70 y231.length y231 from by rw [Ny231.out, KA70.out]; exact Kd.C_drop (m := (x5_1 : Int).toNat) (c := co17) ((Kd.R_reads' (Kd.R_after (ok := (fun k_ => (P0_1_ k_ ∨ w.heap.size ≤ k_) ∧ k_ ≠ gb204)) (RD HO_204001) hg hat)).2.2) KL70.out ((Kd.R_reads' (Kd.R_after (ok := (fun k_ => (P0_1_ k_ ∨ w.heap.size ≤ k_) ∧ k_ ≠ gb204)) (RD HO_204001) hg hat)).2.1))), AsM (ho)⟩; clear HO_204001 BK203 BK204 BK205 HB HK HR234 HO230; obtain ⟨HO_204001, BK203, BK204, BK205, HB, HK, HR234, HO237⟩ := n_; clear ho hb hg hat))
          have n_ : _ ∧ _ ∧ _ ∧ _ ∧ _ ∧ _ ∧ _ ∧ _ := ⟨AsM (Kd.R_drew HO_204001.out), AsM (Kd.R_drew HO237.out), AsM (blk_drew BK203.out), AsM (blk_drew BK204.out), AsM (blk_drew BK205.out), AsM (Kd.C_drew HR234.out), AsM (Kept.drew HK.out), AsM (below_drew1 HB.out)⟩
          clear HO_204001 HO237 BK203 BK204 BK205 HR234 HK HB
          obtain ⟨HO_204001, HO237, BK203, BK204, BK205, HR234, HK, HB⟩ := n_
          have q73 : (x5_1 : Int) ≤ ((l0_1.length : Int) : Int) := of_decide_eq_true AS
          obtain ⟨i073, hi073, _, hsz73, _⟩ := info_parts info49
          have hcut73 := cut_to (P := Try.prog) 23 49 .i64 Try.underlying23 hi073 Ao17 l0_1.length co17 x5_1 (of_decide_eq_true AS) q73 (Kd.R_reads' HO_204001.out).2.1
          have hr73 := Kd.R_take (m := (x5_1 : Int).toNat) HO_204001.out (by omega)
          have hy73 : y238.length = (x5_1 : Int).toNat := (by rw [Ny238.out, List.length_take]; omega)
          rw [← Ny238.out] at hr73
          rw [← hy73] at hr73 hcut73
          clear hy73 hi073 hsz73 HO_204001
          have HO240 := Aside0.mk hr73
          clear hr73
          replace q73 := eq_true q73
          refine start_ (n := 11) (S := fun w' => w'.cell? ⟨gb203, 0, none⟩ = some (.int .i64 a0_0) ∧ w'.cell? ⟨gb203, 1, none⟩ = some (.slice Ao17 l0_1.length co17) ∧ w'.cell? ⟨gb204, 0, none⟩ = some (.int .i64 a1_0) ∧ w'.cell? ⟨gb204, 1, none⟩ = some (.string a1_1)) (ds := [10]) #[false, false, false, false, false, false, false, false, false, false, false] (by kernel_rfl) rfl rfl ⟨(blk_cell BK203.out 0).trans rfl, (blk_cell BK203.out 1).trans rfl, (blk_cell BK204.out 0).trans rfl, (blk_cell BK204.out 1).trans rfl⟩ (fun hHeld => ?_); refine with_tabW spec_l19Put.tab7 spec_l19Put.bits7 (fun HT_ HW_ => ?_)
          generalize w71.drew = w72 at HO237 BK203 BK204 BK205 HR234 HK HB HO240 hHeld ⊢
          refine PU (i := 0) (N := some 34) (tf 1 10) rfl rfl HT_ ?_
          refine PU (i := 2) (N := some 36) #[true, false, true, false, false, false, false, false, false, false, false] rfl rfl HT_ ?_
          refine PU (i := 7) (N := some 41) #[true, false, true, false, false, false, false, true, false, false, false] rfl rfl HT_ ?_
          refine PT (i := 1) (N := some 35) #[true, true, true, false, false, false, false, true, false, false, false] rfl rfl HT_ HW_ hHeld ?_
          refine PU (i := 3) (N := some 37) #[true, true, true, true, false, false, false, true, false, false, false] rfl rfl HT_ ?_
          refine PT (i := 4) (N := some 38) #[true, true, true, true, true, false, false, true, false, false, false] rfl rfl HT_ HW_ hHeld ?_
          refine one_ (i := 5) (N := some 39) #[true, true, true, true, true, true, false, true, false, false, false] rfl rfl (one_of HT_.out (by kernel_rfl)) (by decide) (fun K hK => ?_)
          refine value_ (w1 := ?_) (v := ?_) (by rfl) rfl ?_ ?_
          rotate_left 2
          ·go_simp
           constructor
           ·rfl
           ·rfl
          refine hK.out _ _ ⟨(blk_cell (blk_alloc BK203.out _) 0).trans rfl, (blk_cell (blk_alloc BK203.out _) 1).trans rfl, (blk_cell (blk_alloc BK204.out _) 0).trans rfl, (blk_cell (blk_alloc BK204.out _) 1).trans rfl⟩ (fun hHeld => ?_)
          clear hK K
          refine NM (some 39) ?_
          refine one_ (i := 6) (N := some 40) (tf 8 3) rfl rfl (one_of HT_.out (by kernel_rfl)) (by decide) (fun K hK => ?_)
          refine Kd.R_append_step k49 (w0 := w0) w0.heap.size (by rfl) (.tmp 37) (.tmp 39) 23 49 (.agg #[(.int .i64 0), (.string ⟨#[]⟩)]) 24 rfl Try.underlying23 info49 rfl (by decide) (by omega) (.slice Ao17 y238.length co17) y238 (⟨a1_0, a1_1⟩ : S49) [.int .i64 a1_0, .string a1_1] (fun k_ => (P0_1_ k_ ∨ w.heap.size ≤ k_) ∧ some k_ ≠ (v236 : Value).ownBlock ∧ k_ ≠ gb204) (fun _ => False) rfl rfl ?aP (fun _ hk => hk.elim) ?aF ?aO ?aB ?aS ?aL ?_
          (case aP => exact k49_mkM _ _ _ (⟨a1_0, a1_1⟩ : S49))
          (case aB => exact BG)
          (case aF => exact (fun k_ hk => ⟨(.inr (Nat.le_trans (spec_l19Put.z1) hk)), Kd.fresh' (Kd.R_lt (RD HO237)) k_ hk, Kd.freshB (g := gb204) (o := .cells #[.int .i64 a1_0, .string a1_1] 49 (0, 0)) (BD BK204) k_ hk⟩))
          (case aO => exact (by refine PRx ?_; exact Kd.R_mono HO240.out (fun _ hk => ⟨hk.1.1, ⟨hk.2, hk.1.2⟩⟩)))
          (case aS => exact (below_size BG))
          (case aL => have := LMc62.out; omega)
          intro v242 w74 ho hb hg hat
          rw [← Ny241.out] at ho
          have n_ : _ ∧ _ ∧ _ ∧ _ ∧ _ ∧ _ ∧ _ := ⟨AsM (blk_grown (g := gb203) (o := .cells #[.int .i64 a0_0, .slice Ao17 l0_1.length co17] 25 (0, 0)) (BD BK203) hg (Kd.R_ne HO240.out BK203.out (by decide))), AsM (blk_grown (g := gb204) (o := .cells #[.int .i64 a1_0, .string a1_1] 49 (0, 0)) (BD BK204) hg (Kd.R_away HO240.out (fun _ hk => hk.1.2))), AsM (blk_grown (g := gb205) (o := .cells #[.int .i64 0, .slice none 0 0] 25 (0, 0)) (BD BK205) hg (Kd.R_ne HO240.out BK205.out (by decide))), AsM (Kd.R_after (ok := (fun k_ => (P0_1_ k_ ∨ w.heap.size ≤ k_) ∧ k_ ≠ gb204)) (by refine PRx ?_; exact Kd.R_mono HO237.out (fun _ hk => ⟨⟨hk.1, hk.2.2⟩, OL hk.2.1⟩)) hg hat), AsM (hb), AsM (Kept.of_grown (S := (fun k_ => P0_1_ k_)) hg (spec_l19Put.z0) (fun k_ e_ => (HO240.out.1 k_ e_).1.1)), AsM (ho)⟩
          clear BK203 BK204 BK205 HO237 HB HK HO240
          obtain ⟨BK203, BK204, BK205, HO237, HB, HK, HO243⟩ := n_
          clear ho hb hg hat
          obtain ⟨Ao76, co76, eo76⟩ := Kd.R_slice HO237.out
          (first | subst eo76 | (injection eo76 with f1_ f2_ f3_; have f4_ := f1_.symm; have f5_ := f3_.symm; clear f1_ f2_ f3_; subst f4_; subst f5_))
          refine hK.out _ _ ⟨(blk_cell BK203.out 0).trans rfl, (blk_cell BK203.out 1).trans rfl, (blk_cell BK204.out 0).trans rfl, (blk_cell BK204.out 1).trans rfl⟩ (fun hHeld => ?_)
          clear hK K
          refine NM (some 40) ?_
          refine one_ (i := 8) (N := some 42) (tf 9 2) rfl rfl (one_of HT_.out (by kernel_rfl)) (by decide) (fun K hK => ?_)
          refine Kd.R_append_rows_step k49 (w0 := w0) w0.heap.size (by rfl) (.tmp 40) (.tmp 41) 23 49 (.agg #[(.int .i64 0), (.string ⟨#[]⟩)]) 24 rfl Try.underlying23 info49 rfl (by decide) (by omega) v242 y241 y235 _ _ _ (fun k_ => (P0_1_ k_ ∨ w.heap.size ≤ k_) ∧ some k_ ≠ (.slice Ao76 y235.length co76 : Value).ownBlock ∧ k_ ≠ gb204) (fun _ => False) rfl rfl ?aO ?aR (fun _ _ h => h) (fun _ h => h.elim) ?aF ?aB ?aS ?aL ?_
          (case aR => repeat (first | exact (Kd.R_reads' HO237.out).2.2 | (with_reducible refine Kd.C_alloc ?_ _) | (with_reducible refine Kd.C_drewN ?_ _) | (with_reducible refine Kd.C_drew ?_)))
          (case aB => exact BG)
          (case aF => exact (fun k_ hk => ⟨(.inr (Nat.le_trans (spec_l19Put.z1) hk)), Kd.fresh' (Kd.R_lt (RD HO237)) k_ hk, Kd.freshB (g := gb204) (o := .cells #[.int .i64 a1_0, .string a1_1] 49 (0, 0)) (BD BK204) k_ hk⟩))
          (case aO => exact (RD HO243))
          (case aS => exact (below_size BG))
          (case aL => have := LMc63.out; omega)
          intro v245 w75 ho hb hg hat
          rw [← Ny244.out] at ho
          have n_ : _ ∧ _ ∧ _ ∧ _ ∧ _ ∧ _ ∧ _ := ⟨AsM (blk_grown (g := gb203) (o := .cells #[.int .i64 a0_0, .slice Ao17 l0_1.length co17] 25 (0, 0)) (BD BK203) hg (Kd.R_ne HO243.out BK203.out (by decide))), AsM (blk_grown (g := gb204) (o := .cells #[.int .i64 a1_0, .string a1_1] 49 (0, 0)) (BD BK204) hg (Kd.R_away HO243.out (fun _ hk => hk.2.2))), AsM (blk_grown (g := gb205) (o := .cells #[.int .i64 0, .slice none 0 0] 25 (0, 0)) (BD BK205) hg (Kd.R_ne HO243.out BK205.out (by decide))), AsM (Kd.R_after (ok := (fun k_ => (P0_1_ k_ ∨ w.heap.size ≤ k_) ∧ k_ ≠ gb204)) (RD HO237) hg hat), AsM (hb), AsM (Kept.of_grown (S := (fun k_ => P0_1_ k_)) hg (spec_l19Put.z0) (fun k_ e_ => (HO243.out.1 k_ e_).1)), AsM (ho)⟩
          clear BK203 BK204 BK205 HO237 HB HK HO243
          obtain ⟨BK203, BK204, BK205, HO237, HB, HK, HO246⟩ := n_
          clear ho hb hg hat
          obtain ⟨Ao77, co77, eo77⟩ := Kd.R_slice HO246.out
          (first | subst eo77 | (injection eo77 with f1_ f2_ f3_; have f4_ := f1_.symm; have f5_ := f3_.symm; clear f1_ f2_ f3_; subst f4_; subst f5_))
          refine hK.out _ _ ⟨(blk_cell BK203.out 0).trans rfl, (blk_cell BK203.out 1).trans rfl, (blk_cell BK204.out 0).trans rfl, (blk_cell BK204.out 1).trans rfl⟩ (fun hHeld => ?_)
          clear hK K
          refine NM (some 42) ?_
          refine PU (i := 9) (N := some 43) (tf 10 1) rfl rfl HT_ ?_
          refine last_ (i := 10) (N := none) #[true, true, true, true, true, true, true, true, true, true, true] rfl rfl (one_of HT_.out (by kernel_rfl)) (by decide) (fun K hK => ?_)
          have hs78 : w75.cell? ⟨gb203, 1, none⟩ = some (.slice Ao17 l0_1.length co17) := (blk_cell BK203.out 1).trans rfl
          have hfs78 := blk_frozen BK203.out 1
          have hns78_1 := NB204_203.out
          have hns78_2 := NB205_203.out
          have hms78_1 := NB203_204.out
          have hms78_2 := NB203_205.out
          refine skip_ (w1 := ?_) (by rfl) rfl ?_ ?_
          rotate_left
          ·go_simp
           rfl
          refine hK.out _ _ ?_
          clear hK K
          refine done_ (done_of HT_.out (by kernel_rfl)) ?_
          obtain ⟨hcz79_0, hcz79_1, hfz79_0, hfz79_1⟩ := bk2 BK203.out
          have hnb80 := NB205_204.out
          have hnc80 := NB204_205.out
          obtain ⟨hcz81_0, hcz81_1, hfz81_0, hfz81_1⟩ := bk2 BK205.out
          try go_wp2
          refine bodyPost_ret (results_cell_row rfl _ _ gb205 25 #[.int .i64 a0_0, .slice Ao77 y244.length co77] (0, 0) _ rfl (by refine PX ?_; refine blk_put (cs := #[.int .i64 a0_0, .slice none 0 0]) ?_ 1 _ rfl; refine PX ?_; refine blk_put (cs := #[.int .i64 0, .slice none 0 0]) ?_ 0 _ rfl; refine PX ?_; refine blk_far ?_ NB205_203.out _; exact BD BK205) Try.underlying25 rfl (by kernel_rfl)) rfl ?_
          exact ⟨_, ER, by refine PRx ?_; exact Kd.R_mono (FR (FR (Kd.R_far (p := ⟨gb203, 1, none⟩) (Kd.R_types (Kd.R_types HO246.out BK203.out (by decide)) BK205.out (by decide)) (fun _ hk => hk.1.2) (.slice Ao77 y244.length co77)))) (fun _ hk => hk.1.1.1), spec_l19Put.z2, spec_l19Put.z0⟩
         ·rw [if_neg c63] at H
          exact absurd H (by simp)
        ·rw [if_neg c62] at H
         exact absurd H (by simp)
       ·rw [if_neg c60] at H
        exact absurd H (by simp)
      ·rw [if_neg c59] at H
       exact absurd H (by simp)
     ·rw [if_neg c58] at H
      exact absurd H (by simp)
def spec_l19Split.f : Nat → Int → List (S49) → Int → Option (Int × (List (S49)))
 | 0, _, _, _ => none
 | k + 1, a0_0, l0_1, a1 => (spec_l19Dummy.f k a1).bind fun bt249 => ((spec_l19Put.f k a0_0 l0_1 bt249.1 bt249.2).bind fun bt251 => (if a1 = 0 then (some (bt251.1, bt251.2)) else ((spec_Parent.f k a1).bind fun t255 => ((spec_l19Split.f k bt251.1 bt251.2 t255).bind fun bt256 => (some (bt256.1, bt256.2))))))
theorem spec_l19Split.mono_l : ∀ k, (∀ y0 y1 y2, LeO (spec_l19Split.f k y0 y1 y2) (spec_l19Split.f (k + 1) y0 y1 y2))
 | 0 => fun _ _ _ r h => by simp [spec_l19Split.f] at h
 | k + 1 => by
  have ih0 := spec_l19Split.mono_l k
  ·intro y0 y1 y2
   unfold spec_l19Split.f
   repeat' first | (with_reducible first | exact ih0 _ _ _ | exact spec_Parent.mono _ _ | exact spec_l19Dummy.mono _ _ | exact spec_l19Put.mono _ _ _ _ _ | exact LeO.refl _ | exact LeO.none _ | refine LeO.ite ?_ ?_ | refine LeO.bind ?_ (fun _ => ?_)) | exact ih0 _ _ _ | exact spec_Parent.mono _ _ | exact spec_l19Dummy.mono _ _ | exact spec_l19Put.mono _ _ _ _ _ | exact LeO.none _ | refine LeO.ite ?_ ?_ | refine LeO.bind ?_ (fun _ => ?_)
theorem spec_l19Split.mono : ∀ a0 a1 a2 k, LeO (spec_l19Split.f k a0 a1 a2) (spec_l19Split.f (k + 1) a0 a1 a2) := by
 intro a0 a1 a2 k
 have ih0 := spec_l19Split.mono_l k
 exact ih0 a0 a1 a2
theorem spec_l19Split.z0 {P : Prop} (h : P := by repeat (first | (with_reducible first | exact HK.out | apply Kept.alloc | apply Kept.drewN | apply Kept.drew | refine Kept.setCell ?_ (.inr GW247.out) _ | refine Kept.setCell ?_ (.inr GW248.out) _) | exact HK.out)) : P := h
theorem spec_l19Split.z1 {P : Prop} (h : P := by first | exact HK.out.1 | exact (show Kept w _ (fun k_ => P0_1_ k_) from by repeat (first | (with_reducible first | exact HK.out | apply Kept.alloc | apply Kept.drewN | apply Kept.drew | refine Kept.setCell ?_ (.inr GW247.out) _ | refine Kept.setCell ?_ (.inr GW248.out) _) | exact HK.out)).1) : P := h
theorem spec_l19Split.z2 {P : Prop} (h : P := by repeat (first | (with_reducible first | exact HB.out | apply below_alloc | apply pw_below_drewN | apply below_drew1 | refine below_set ?_ GE247.out | refine below_set ?_ GE248.out) | exact HB.out)) : P := h
set_option maxHeartbeats 8000000 in
set_option maxRecDepth 100000 in
theorem spec_l19Split.calls (k : Nat) : ∀ (a0_0 : Int) (P0_1_ : Nat → Prop) (u9000_ : Value) (l0_1 : List (S49)) (a1 : Int) (r1 : Int) (r2 : List (S49)) (w0 w : World) (hB : Below w0.heap.size w0 w) (ho0_1 : Kd.R k49 49 w w0.heap.size P0_1_ u9000_ l0_1) (h : spec_l19Split.f k a0_0 l0_1 a1 = some (r1, r2)),
  Calls Try.prog 77 #[.agg #[.int .i64 a0_0, u9000_], .int .i64 a1] w fun e w' => ∃ v1_ : Value, e = .returned (.agg #[.int .i64 r1, v1_]) ∧ Kd.R k49 49 w' w0.heap.size (fun k_ => (P0_1_ k_ ∨ w.heap.size ≤ k_)) v1_ r2 ∧ Below w0.heap.size w0 w' ∧ Kept w w' (fun k_ => P0_1_ k_) := by
 induction k using Nat.strongRecOn with
 | _ k ih =>
 intro a0_0 P0_1_ u9000_ l0_1 a1 r1 r2 w0 w hB ho0_1 h
 cases k with
 | zero => exact absurd h (by simp [spec_l19Split.f])
 | succ k =>
 simp only [spec_l19Split.f] at h
 have hu25 := Try.underlying25
 have HO0_1 := Aside0.mk (show Kd.R k49 49 w w0.heap.size (fun k_ => (P0_1_ k_ ∨ w.heap.size ≤ k_)) u9000_ l0_1 from Kd.R_mono ho0_1 (fun k_ hk => (.inl hk)))
 have HK := Aside0.mk (Kept.refl w (fun k_ => P0_1_ k_))
 have HW0 := Aside0.mk hB.size
 have HB := Aside0.mk hB
 clear hB
 have H : ((spec_l19Dummy.f k a1).bind fun bt249 => ((spec_l19Put.f k a0_0 l0_1 bt249.1 bt249.2).bind fun bt251 => (if a1 = 0 then (some (bt251.1, bt251.2)) else ((spec_Parent.f k a1).bind fun t255 => ((spec_l19Split.f k bt251.1 bt251.2 t255).bind fun bt256 => (some (bt256.1, bt256.2))))))) = some (r1, r2) := h
 clear h
 replace H := BS H
 obtain ⟨⟨t249, t250⟩, A30, H⟩ := H
 have A3 := Aside0.mk A30
 clear A30
 replace H := BS H
 obtain ⟨⟨t251, t252⟩, A40, H⟩ := H
 have A4 := Aside0.mk A40
 clear A40
 by_cases c5 : a1 = 0
 ·rw [if_pos c5] at H
  have c5b0 : (a1 == 0) = true := beq_iff_eq.mpr c5
  have c5b1 : (a1 != 0) = false := bne_eq_false_iff_eq.mpr c5
  clear c5
  simp only [Option.some.injEq, Prod.mk.injEq] at H
  obtain ⟨rfl, rfl⟩ := H
  obtain ⟨Ao6, co6, eo6⟩ := Kd.R_slice HO0_1.out
  subst eo6
  go_enter Try.func77, Try.ntmps77
  try go_wp2_with (first | ((with_reducible refine gate_dst (N := 2) rfl ?_); refine box_event ?hg (N := 2) ?hd (cs := #[.int .i64 a0_0, .slice Ao6 l0_1.length co6]) (t := 25) ?hr ?_; (case hd => rfl); (case hg => rfl); (case hr => first | (go_simp; done) | (go_simp; rfl)); intro gb247 hg w7 hbox hb; have n_ : _ ∧ _ ∧ _ ∧ _ ∧ _ ∧ _ := ⟨AsM (Kd.R_below (RD HO0_1) hb), AsM (Kept.below (S := (fun k_ => P0_1_ k_)) (HK1) hb), AsM (below_step BL hb), AsM (hbox), AsM ((by rw [hg]; exact (by first | exact HK.out.1 | exact (show Kept w _ (fun k_ => P0_1_ k_) from by repeat (first | (with_reducible first | exact HK.out | apply Kept.alloc | apply Kept.drewN | apply Kept.drew) | exact HK.out)).1) : w.heap.size ≤ gb247)), AsM ((GL : w0.heap.size ≤ gb247))⟩; clear HO0_1 HK HB; obtain ⟨HO0_1, HK, HB, BK247, GW247, GE247⟩ := n_; clear hb hbox hg) | ((with_reducible refine gate_dst (N := 4) rfl ?_); refine box_event ?hg (N := 4) ?hd (cs := #[.int .i64 0, .slice none 0 0]) (t := 25) ?hr ?_; (case hd => rfl); (case hg => rfl); (case hr => first | (go_simp; done) | (go_simp; rfl)); intro gb248 hg w8 hbox hb; have n_ : _ ∧ _ ∧ _ ∧ _ ∧ _ ∧ _ ∧ _ ∧ _ ∧ _ := ⟨AsM (Kd.R_below (RD HO0_1) hb), AsM (blk_below (BD BK247) hb), AsM (Kept.below (S := (fun k_ => P0_1_ k_)) (by repeat (first | (with_reducible first | exact HK.out | apply Kept.alloc | apply Kept.drewN | apply Kept.drew | refine Kept.setCell ?_ (.inr GW247.out) _) | exact HK.out)) hb), AsM (below_step BG hb), AsM (hbox), AsM ((by rw [hg]; exact (by first | exact HK.out.1 | exact (show Kept w _ (fun k_ => P0_1_ k_) from by repeat (first | (with_reducible first | exact HK.out | apply Kept.alloc | apply Kept.drewN | apply Kept.drew | refine Kept.setCell ?_ (.inr GW247.out) _) | exact HK.out)).1) : w.heap.size ≤ gb248)), AsM ((GM : w0.heap.size ≤ gb248)), AsM ((by rw [hg]; exact Nat.ne_of_lt (blk_lt (BD BK247)) : gb247 ≠ gb248)), AsM ((by rw [hg]; exact Nat.ne_of_gt (blk_lt (BD BK247)) : gb248 ≠ gb247))⟩; clear HO0_1 BK247 HK HB; obtain ⟨HO0_1, BK247, HK, HB, BK248, GW248, GE248, NB247_248, NB248_247⟩ := n_; clear hb hbox hg))
  have n_ : _ ∧ _ ∧ _ ∧ _ ∧ _ := ⟨AsM (Kd.R_drew HO0_1.out), AsM (blk_drew BK247.out), AsM (blk_drew BK248.out), AsM (Kept.drew HK.out), AsM (below_drew1 HB.out)⟩
  clear HO0_1 BK247 BK248 HK HB
  obtain ⟨HO0_1, BK247, BK248, HK, HB⟩ := n_
  refine start_ (n := 5) (S := fun w' => w'.cell? ⟨gb247, 0, none⟩ = some (.int .i64 a0_0) ∧ w'.cell? ⟨gb247, 1, none⟩ = some (.slice Ao6 l0_1.length co6)) (ds := [4]) #[false, false, false, false, false] (by kernel_rfl) rfl rfl ⟨(blk_cell BK247.out 0).trans rfl, (blk_cell BK247.out 1).trans rfl⟩ (fun hHeld => ?_)
  generalize w8.drew = w9 at HO0_1 BK247 BK248 HK HB hHeld ⊢
  refine PV (i := 1) (N := some 6) #[false, true, false, false, false] rfl rfl ?_
  refine PK (i := 0) (N := some 5) (tf 2 3) rfl rfl hHeld ?_
  refine one_ (i := 2) (N := some 7) (tf 3 2) rfl rfl (by kernel_rfl) (by decide) (fun K hK => ?_)
  refine goes_ Try.func55 (by kernel_rfl) rfl #[.int .i64 a1] (by rfl) rfl rfl AQ ?_
  with_reducible refine (spec_l19Dummy.calls k a1 t249 t250 _ A3.out).mono ?_
  rintro e w10 ⟨rfl, hb⟩
  refine ⟨_, rfl, ?_⟩
  have n_ : _ ∧ _ ∧ _ ∧ _ ∧ _ := ⟨AsM (Kd.R_below (RD HO0_1) hb), AsM (blk_below (BD BK247) hb), AsM (blk_below (BD BK248) hb), AsM (Kept.below (S := (fun k_ => P0_1_ k_)) (spec_l19Split.z0) hb), AsM (below_step BG hb)⟩
  clear HO0_1 BK247 BK248 HK HB
  obtain ⟨HO0_1, BK247, BK248, HK, HB⟩ := n_
  (try clear hb)
  (try clear hb2)
  (try clear hk)
  (try clear hi)
  refine hK.out _ _ ⟨(blk_cell BK247.out 0).trans rfl, (blk_cell BK247.out 1).trans rfl⟩ (fun hHeld => ?_)
  clear hK K
  refine NM (some 7) ?_
  refine one_ (i := 3) (N := some 8) (tf 4 1) rfl rfl (by kernel_rfl) (by decide) (fun K hK => ?_)
  refine goes_ Try.func79 (by kernel_rfl) rfl #[.agg #[.int .i64 a0_0, .slice Ao6 l0_1.length co6], .agg #[.int .i64 t249, .string t250]] (by rfl) rfl rfl AQ ?_
  with_reducible refine (spec_l19Put.calls k a0_0 (fun k_ => some k_ = (.slice Ao6 l0_1.length co6 : Value).ownBlock) (.slice Ao6 l0_1.length co6) l0_1 t249 t250 t251 t252 w0 _ ?side1 ?side2 A4.out).mono ?_
  (case side1 => repeat (first | (with_reducible first | exact HB.out | apply below_alloc | apply pw_below_drewN | apply below_drew1 | refine below_set ?_ GE247.out | refine below_set ?_ GE248.out) | exact HB.out))
  (case side2 => exact Kd.R_tight rfl HO0_1.out)
  rintro e w11 ⟨v253, rfl, ho0, hb, hkp⟩
  refine ⟨_, rfl, ?_⟩
  have n_ : _ ∧ _ ∧ _ ∧ _ ∧ _ := ⟨AsM (blk_kept (BD BK247) hkp (fun hs_ => (fun e_ => (Kd.R_ne HO0_1.out BK247.out (by decide)) e_) hs_)), AsM (blk_kept (BD BK248) hkp (fun hs_ => (fun e_ => (Kd.R_ne HO0_1.out BK248.out (by decide)) e_) hs_)), AsM (Kd.R_mono (ok' := fun k_ => (P0_1_ k_ ∨ w.heap.size ≤ k_)) ho0 (fun k_ hk_ => Or.elim hk_ (fun hs_ => (HO0_1.out.1 k_ (hs_).symm)) (fun hn_ => (.inr (Nat.le_trans (spec_l19Split.z1) hn_))))), AsM (Kept.then_ (S := (fun k_ => P0_1_ k_)) (spec_l19Split.z0) hkp (fun k_ hs_ => (fun e_ => (HO0_1.out.1 k_ e_.symm)) hs_)), AsM (hb)⟩
  clear BK247 BK248 HK HB HO0_1
  obtain ⟨BK247, BK248, HO254, HK, HB⟩ := n_
  (try clear hb)
  (try clear hkp)
  (try clear ho0)
  obtain ⟨Ao13, co13, eo13⟩ := Kd.R_slice HO254.out
  (first | subst eo13 | (injection eo13 with f1_ f2_ f3_; have f4_ := f1_.symm; have f5_ := f3_.symm; clear f1_ f2_ f3_; subst f4_; subst f5_))
  refine hK.out _ _ ⟨(blk_cell BK247.out 0).trans rfl, (blk_cell BK247.out 1).trans rfl⟩ (fun hHeld => ?_)
  clear hK K
  refine NM (some 8) ?_
  refine last_ (i := 4) (N := none) #[true, true, true, true, true] rfl rfl (by kernel_rfl) (by decide) (fun K hK => ?_)
  have hs12 : w11.cell? ⟨gb247, 0, none⟩ = some (.int .i64 a0_0) := (blk_cell BK247.out 0).trans rfl
  have hfs12 := blk_frozen BK247.out 0
  have hns12_1 := NB248_247.out
  have hms12_1 := NB247_248.out
  have hs14 : w11.cell? ⟨gb247, 1, none⟩ = some (.slice Ao6 l0_1.length co6) := (blk_cell BK247.out 1).trans rfl
  have hfs14 := blk_frozen BK247.out 1
  have hns14_1 := NB248_247.out
  have hms14_1 := NB247_248.out
  refine skip_ (w1 := ?_) (by rfl) rfl ?_ ?_
  rotate_left
  ·go_simp
   rfl
  refine hK.out _ _ ?_
  clear hK K
  refine done_ (by kernel_rfl) ?_
  have hnb15 := NB247_248.out
  have hnc15 := NB248_247.out
  obtain ⟨hcz16_0, hcz16_1, hfz16_0, hfz16_1⟩ := bk2 BK247.out
  obtain ⟨hcz17_0, hcz17_1, hfz17_0, hfz17_1⟩ := bk2 BK248.out
  try go_wp2
  refine bodyPost_ret (results_cell_row rfl _ _ gb248 25 #[.int .i64 t251, .slice Ao13 t252.length co13] (0, 0) _ rfl (by refine PX ?_; refine blk_put (cs := #[.int .i64 t251, .slice none 0 0]) ?_ 1 _ rfl; refine PX ?_; refine blk_put (cs := #[.int .i64 0, .slice none 0 0]) ?_ 0 _ rfl; refine PX ?_; refine blk_far ?_ NB248_247.out _; refine PX ?_; refine blk_far ?_ NB248_247.out _; exact BD BK248) Try.underlying25 rfl (by kernel_rfl)) rfl ?_
  exact ⟨_, ER, by refine PRx ?_; exact Kd.R_mono (FR (FR (Kd.R_far (p := ⟨gb247, 1, none⟩) (Kd.R_far (p := ⟨gb247, 0, none⟩) (Kd.R_types (Kd.R_types HO254.out BK247.out (by decide)) BK248.out (by decide)) (fun _ hk => hk.1.2) (.int .i64 t251)) (fun _ hk => hk.1.2) (.slice Ao13 t252.length co13)))) (fun _ hk => hk.1.1), spec_l19Split.z2, spec_l19Split.z0⟩
 ·rw [if_neg c5] at H
  have c5b0 : (a1 == 0) = false := beq_eq_false_iff_ne.mpr c5
  have c5b1 : (a1 != 0) = true := bne_iff_ne.mpr c5
  replace H := BS H
  obtain ⟨t255, A180, H⟩ := H
  have A18 := Aside0.mk A180
  clear A180
  replace H := BS H
  obtain ⟨⟨t256, t257⟩, A190, H⟩ := H
  have A19 := Aside0.mk A190
  clear A190
  simp only [Option.some.injEq, Prod.mk.injEq] at H
  obtain ⟨rfl, rfl⟩ := H
  obtain ⟨Ao20, co20, eo20⟩ := Kd.R_slice HO0_1.out
  subst eo20
  go_enter Try.func77, Try.ntmps77
  try go_wp2_with (first | ((with_reducible refine gate_dst (N := 2) rfl ?_); refine box_event ?hg (N := 2) ?hd (cs := #[.int .i64 a0_0, .slice Ao20 l0_1.length co20]) (t := 25) ?hr ?_; (case hd => rfl); (case hg => rfl); (case hr => first | (go_simp; done) | (go_simp; rfl)); intro gb247 hg w21 hbox hb; have n_ : _ ∧ _ ∧ _ ∧ _ ∧ _ ∧ _ := ⟨AsM (Kd.R_below (RD HO0_1) hb), AsM (Kept.below (S := (fun k_ => P0_1_ k_)) (HK1) hb), AsM (below_step BL hb), AsM (hbox), AsM ((by rw [hg]; exact (by first | exact HK.out.1 | exact (show Kept w _ (fun k_ => P0_1_ k_) from by repeat (first | (with_reducible first | exact HK.out | apply Kept.alloc | apply Kept.drewN | apply Kept.drew) | exact HK.out)).1) : w.heap.size ≤ gb247)), AsM ((GL : w0.heap.size ≤ gb247))⟩; clear HO0_1 HK HB; obtain ⟨HO0_1, HK, HB, BK247, GW247, GE247⟩ := n_; clear hb hbox hg) | ((with_reducible refine gate_dst (N := 4) rfl ?_); refine box_event ?hg (N := 4) ?hd (cs := #[.int .i64 0, .slice none 0 0]) (t := 25) ?hr ?_; (case hd => rfl); (case hg => rfl); (case hr => first | (go_simp; done) | (go_simp; rfl)); intro gb248 hg w22 hbox hb; have n_ : _ ∧ _ ∧ _ ∧ _ ∧ _ ∧ _ ∧ _ ∧ _ ∧ _ := ⟨AsM (Kd.R_below (RD HO0_1) hb), AsM (blk_below (BD BK247) hb), AsM (Kept.below (S := (fun k_ => P0_1_ k_)) (by repeat (first | (with_reducible first | exact HK.out | apply Kept.alloc | apply Kept.drewN | apply Kept.drew | refine Kept.setCell ?_ (.inr GW247.out) _) | exact HK.out)) hb), AsM (below_step BG hb), AsM (hbox), AsM ((by rw [hg]; exact (by first | exact HK.out.1 | exact (show Kept w _ (fun k_ => P0_1_ k_) from by repeat (first | (with_reducible first | exact HK.out | apply Kept.alloc | apply Kept.drewN | apply Kept.drew | refine Kept.setCell ?_ (.inr GW247.out) _) | exact HK.out)).1) : w.heap.size ≤ gb248)), AsM ((GM : w0.heap.size ≤ gb248)), AsM ((by rw [hg]; exact Nat.ne_of_lt (blk_lt (BD BK247)) : gb247 ≠ gb248)), AsM ((by rw [hg]; exact Nat.ne_of_gt (blk_lt (BD BK247)) : gb248 ≠ gb247))⟩; clear HO0_1 BK247 HK HB; obtain ⟨HO0_1, BK247, HK, HB, BK248, GW248, GE248, NB247_248, NB248_247⟩ := n_; clear hb hbox hg))
  have n_ : _ ∧ _ ∧ _ ∧ _ ∧ _ := ⟨AsM (Kd.R_drew HO0_1.out), AsM (blk_drew BK247.out), AsM (blk_drew BK248.out), AsM (Kept.drew HK.out), AsM (below_drew1 HB.out)⟩
  clear HO0_1 BK247 BK248 HK HB
  obtain ⟨HO0_1, BK247, BK248, HK, HB⟩ := n_
  refine start_ (n := 5) (S := fun w' => w'.cell? ⟨gb247, 0, none⟩ = some (.int .i64 a0_0) ∧ w'.cell? ⟨gb247, 1, none⟩ = some (.slice Ao20 l0_1.length co20)) (ds := [4]) #[false, false, false, false, false] (by kernel_rfl) rfl rfl ⟨(blk_cell BK247.out 0).trans rfl, (blk_cell BK247.out 1).trans rfl⟩ (fun hHeld => ?_)
  generalize w22.drew = w23 at HO0_1 BK247 BK248 HK HB hHeld ⊢
  refine PV (i := 1) (N := some 6) #[false, true, false, false, false] rfl rfl ?_
  refine PK (i := 0) (N := some 5) (tf 2 3) rfl rfl hHeld ?_
  refine one_ (i := 2) (N := some 7) (tf 3 2) rfl rfl (by kernel_rfl) (by decide) (fun K hK => ?_)
  refine goes_ Try.func55 (by kernel_rfl) rfl #[.int .i64 a1] (by rfl) rfl rfl AQ ?_
  with_reducible refine (spec_l19Dummy.calls k a1 t249 t250 _ A3.out).mono ?_
  rintro e w24 ⟨rfl, hb⟩
  refine ⟨_, rfl, ?_⟩
  have n_ : _ ∧ _ ∧ _ ∧ _ ∧ _ := ⟨AsM (Kd.R_below (RD HO0_1) hb), AsM (blk_below (BD BK247) hb), AsM (blk_below (BD BK248) hb), AsM (Kept.below (S := (fun k_ => P0_1_ k_)) (spec_l19Split.z0) hb), AsM (below_step BG hb)⟩
  clear HO0_1 BK247 BK248 HK HB
  obtain ⟨HO0_1, BK247, BK248, HK, HB⟩ := n_
  (try clear hb)
  (try clear hb2)
  (try clear hk)
  (try clear hi)
  refine hK.out _ _ ⟨(blk_cell BK247.out 0).trans rfl, (blk_cell BK247.out 1).trans rfl⟩ (fun hHeld => ?_)
  clear hK K
  refine NM (some 7) ?_
  refine one_ (i := 3) (N := some 8) (tf 4 1) rfl rfl (by kernel_rfl) (by decide) (fun K hK => ?_)
  refine goes_ Try.func79 (by kernel_rfl) rfl #[.agg #[.int .i64 a0_0, .slice Ao20 l0_1.length co20], .agg #[.int .i64 t249, .string t250]] (by rfl) rfl rfl AQ ?_
  with_reducible refine (spec_l19Put.calls k a0_0 (fun k_ => some k_ = (.slice Ao20 l0_1.length co20 : Value).ownBlock) (.slice Ao20 l0_1.length co20) l0_1 t249 t250 t251 t252 w0 _ ?side1 ?side2 A4.out).mono ?_
  (case side1 => repeat (first | (with_reducible first | exact HB.out | apply below_alloc | apply pw_below_drewN | apply below_drew1 | refine below_set ?_ GE247.out | refine below_set ?_ GE248.out) | exact HB.out))
  (case side2 => exact Kd.R_tight rfl HO0_1.out)
  rintro e w25 ⟨v253, rfl, ho0, hb, hkp⟩
  refine ⟨_, rfl, ?_⟩
  have n_ : _ ∧ _ ∧ _ ∧ _ ∧ _ := ⟨AsM (blk_kept (BD BK247) hkp (fun hs_ => (fun e_ => (Kd.R_ne HO0_1.out BK247.out (by decide)) e_) hs_)), AsM (blk_kept (BD BK248) hkp (fun hs_ => (fun e_ => (Kd.R_ne HO0_1.out BK248.out (by decide)) e_) hs_)), AsM (Kd.R_mono (ok' := fun k_ => (P0_1_ k_ ∨ w.heap.size ≤ k_)) ho0 (fun k_ hk_ => Or.elim hk_ (fun hs_ => (HO0_1.out.1 k_ (hs_).symm)) (fun hn_ => (.inr (Nat.le_trans (spec_l19Split.z1) hn_))))), AsM (Kept.then_ (S := (fun k_ => P0_1_ k_)) (spec_l19Split.z0) hkp (fun k_ hs_ => (fun e_ => (HO0_1.out.1 k_ e_.symm)) hs_)), AsM (hb)⟩
  clear BK247 BK248 HK HB HO0_1
  obtain ⟨BK247, BK248, HO254, HK, HB⟩ := n_
  (try clear hb)
  (try clear hkp)
  (try clear ho0)
  obtain ⟨Ao27, co27, eo27⟩ := Kd.R_slice HO254.out
  (first | subst eo27 | (injection eo27 with f1_ f2_ f3_; have f4_ := f1_.symm; have f5_ := f3_.symm; clear f1_ f2_ f3_; subst f4_; subst f5_))
  refine hK.out _ _ ⟨(blk_cell BK247.out 0).trans rfl, (blk_cell BK247.out 1).trans rfl⟩ (fun hHeld => ?_)
  clear hK K
  refine NM (some 8) ?_
  refine last_ (i := 4) (N := none) #[true, true, true, true, true] rfl rfl (by kernel_rfl) (by decide) (fun K hK => ?_)
  have hs26 : w25.cell? ⟨gb247, 0, none⟩ = some (.int .i64 a0_0) := (blk_cell BK247.out 0).trans rfl
  have hfs26 := blk_frozen BK247.out 0
  have hns26_1 := NB248_247.out
  have hms26_1 := NB247_248.out
  have hs28 : w25.cell? ⟨gb247, 1, none⟩ = some (.slice Ao20 l0_1.length co20) := (blk_cell BK247.out 1).trans rfl
  have hfs28 := blk_frozen BK247.out 1
  have hns28_1 := NB248_247.out
  have hms28_1 := NB247_248.out
  refine skip_ (w1 := ?_) (by rfl) rfl ?_ ?_
  rotate_left
  ·go_simp
   rfl
  refine hK.out _ _ ?_
  clear hK K
  refine done_ (by kernel_rfl) ?_
  try go_wp2
  have n0_ : Aside0 (Kd.R k49 49 ((w25.setCell ⟨gb247, 0, none⟩ (.int .i64 t251)).setCell ⟨gb247, 1, none⟩ (.slice Ao27 t252.length co27)) w0.heap.size (fun k_ => (P0_1_ k_ ∨ w.heap.size ≤ k_)) (.slice Ao27 t252.length co27) t252) := ⟨by refine PRx ?_; exact Kd.R_mono (FR (FR (Kd.R_types HO254.out BK247.out (by decide)))) (fun _ hk => hk.1)⟩
  have n1_ : Aside0 (((w25.setCell ⟨gb247, 0, none⟩ (.int .i64 t251)).setCell ⟨gb247, 1, none⟩ (.slice Ao27 t252.length co27)).heap[gb247]? = some (.cells #[.int .i64 t251, .slice Ao27 t252.length co27] 25 (0, 0))) := ⟨by refine PX ?_; refine blk_put (cs := #[.int .i64 t251, .slice Ao20 l0_1.length co20]) ?_ 1 _ rfl; refine PX ?_; refine blk_put (cs := #[.int .i64 a0_0, .slice Ao20 l0_1.length co20]) ?_ 0 _ rfl; exact BD BK247⟩
  have n2_ : Aside0 (((w25.setCell ⟨gb247, 0, none⟩ (.int .i64 t251)).setCell ⟨gb247, 1, none⟩ (.slice Ao27 t252.length co27)).heap[gb248]? = some (.cells #[.int .i64 0, .slice none 0 0] 25 (0, 0))) := ⟨by refine PX ?_; refine blk_far ?_ NB248_247.out _; refine PX ?_; refine blk_far ?_ NB248_247.out _; exact BD BK248⟩
  have n3_ : Aside0 (Kept w ((w25.setCell ⟨gb247, 0, none⟩ (.int .i64 t251)).setCell ⟨gb247, 1, none⟩ (.slice Ao27 t252.length co27)) (fun k_ => P0_1_ k_)) := ⟨spec_l19Split.z0⟩
  have n4_ : Aside0 (Below w0.heap.size w0 ((w25.setCell ⟨gb247, 0, none⟩ (.int .i64 t251)).setCell ⟨gb247, 1, none⟩ (.slice Ao27 t252.length co27))) := ⟨spec_l19Split.z2⟩
  (try clear HO254)
  (try clear BK247)
  (try clear BK248)
  (try clear HK)
  (try clear HB)
  generalize ((w25.setCell ⟨gb247, 0, none⟩ (.int .i64 t251)).setCell ⟨gb247, 1, none⟩ (.slice Ao27 t252.length co27)) = w29 at n0_ n1_ n2_ n3_ n4_ ⊢
  have HO254 := n0_
  have BK247 := n1_
  have BK248 := n2_
  have HK := n3_
  have HB := n4_
  clear n0_ n1_ n2_ n3_ n4_
  have n_ : _ ∧ _ ∧ _ ∧ _ ∧ _ := ⟨AsM (Kd.R_drew HO254.out), AsM (blk_drew BK247.out), AsM (blk_drew BK248.out), AsM (Kept.drew HK.out), AsM (below_drew1 HB.out)⟩
  clear HO254 BK247 BK248 HK HB
  obtain ⟨HO254, BK247, BK248, HK, HB⟩ := n_
  refine start_ (n := 5) (S := fun w' => w'.cell? ⟨gb247, 0, none⟩ = some (.int .i64 t251) ∧ w'.cell? ⟨gb247, 1, none⟩ = some (.slice Ao27 t252.length co27)) (ds := []) #[false, false, false, false, false] (by kernel_rfl) rfl rfl ⟨(blk_cell BK247.out 0).trans rfl, (blk_cell BK247.out 1).trans rfl⟩ (fun hHeld => ?_)
  generalize w29.drew = w30 at HO254 BK247 BK248 HK HB hHeld ⊢
  refine PV (i := 1) (N := some 13) #[false, true, false, false, false] rfl rfl ?_
  refine PK (i := 0) (N := some 12) (tf 2 3) rfl rfl hHeld ?_
  refine one_ (i := 2) (N := some 14) (tf 3 2) rfl rfl (by kernel_rfl) (by decide) (fun K hK => ?_)
  refine goes_ Try.func71 (by kernel_rfl) rfl #[.int .i64 a1] (by rfl) rfl rfl AQ ?_
  with_reducible refine (spec_Parent.calls k a1 t255 _ A18.out).mono ?_
  rintro e w' ⟨rfl, ⟨nd, rfl⟩⟩
  refine ⟨_, rfl, ?_⟩
  refine hK.out _ _ ⟨(blk_cell BK247.out 0).trans rfl, (blk_cell BK247.out 1).trans rfl⟩ (fun hHeld => ?_)
  clear hK K
  refine NM (some 14) ?_
  refine one_ (i := 3) (N := some 15) (tf 4 1) rfl rfl (by kernel_rfl) (by decide) (fun K hK => ?_)
  refine goes_ Try.func77 (by kernel_rfl) rfl #[.agg #[.int .i64 t251, .slice Ao27 t252.length co27], .int .i64 t255] (by rfl) rfl rfl AQ ?_
  with_reducible refine (ih k (by omega) t251 (fun k_ => some k_ = (.slice Ao27 t252.length co27 : Value).ownBlock) (.slice Ao27 t252.length co27) t252 t255 t256 t257 w0 _ ?side1 ?side2 A19.out).mono ?_
  (case side1 => repeat (first | (with_reducible first | exact HB.out | apply below_alloc | apply pw_below_drewN | apply below_drew1 | refine below_set ?_ GE247.out | refine below_set ?_ GE248.out) | exact HB.out))
  (case side2 => exact Kd.R_tight rfl HO254.out)
  rintro e w31 ⟨v258, rfl, ho0, hb, hkp⟩
  refine ⟨_, rfl, ?_⟩
  have n_ : _ ∧ _ ∧ _ ∧ _ ∧ _ := ⟨AsM (blk_kept (BD BK247) hkp (fun hs_ => (fun e_ => (Kd.R_ne HO254.out BK247.out (by decide)) e_) hs_)), AsM (blk_kept (BD BK248) hkp (fun hs_ => (fun e_ => (Kd.R_ne HO254.out BK248.out (by decide)) e_) hs_)), AsM (Kd.R_mono (ok' := fun k_ => (P0_1_ k_ ∨ w.heap.size ≤ k_)) ho0 (fun k_ hk_ => Or.elim hk_ (fun hs_ => (HO254.out.1 k_ (hs_).symm)) (fun hn_ => (.inr (Nat.le_trans (spec_l19Split.z1) hn_))))), AsM (Kept.then_ (S := (fun k_ => P0_1_ k_)) (spec_l19Split.z0) hkp (fun k_ hs_ => (fun e_ => (HO254.out.1 k_ e_.symm)) hs_)), AsM (hb)⟩
  clear BK247 BK248 HK HB HO254
  obtain ⟨BK247, BK248, HO259, HK, HB⟩ := n_
  (try clear hb)
  (try clear hkp)
  (try clear ho0)
  obtain ⟨Ao33, co33, eo33⟩ := Kd.R_slice HO259.out
  (first | subst eo33 | (injection eo33 with f1_ f2_ f3_; have f4_ := f1_.symm; have f5_ := f3_.symm; clear f1_ f2_ f3_; subst f4_; subst f5_))
  refine hK.out _ _ ⟨(blk_cell BK247.out 0).trans rfl, (blk_cell BK247.out 1).trans rfl⟩ (fun hHeld => ?_)
  clear hK K
  refine NM (some 15) ?_
  refine one_ (i := 4) (N := none) (tf 5 0) rfl rfl (by kernel_rfl) (by decide) (fun K hK => ?_)
  have hs32 : w31.cell? ⟨gb248, 0, none⟩ = some (.int .i64 0) := (blk_cell BK248.out 0).trans rfl
  have hfs32 := blk_frozen BK248.out 0
  have hns32_0 := NB247_248.out
  have hms32_0 := NB248_247.out
  have hs34 : w31.cell? ⟨gb248, 1, none⟩ = some (.slice none 0 0) := (blk_cell BK248.out 1).trans rfl
  have hfs34 := blk_frozen BK248.out 1
  have hns34_0 := NB247_248.out
  have hms34_0 := NB248_247.out
  refine skip_ (w1 := ?_) (by rfl) rfl ?_ ?_
  rotate_left
  ·go_simp
   rfl
  refine hK.out _ _ ⟨((cell_far (p := ⟨gb248, _, none⟩) NB247_248.out _).trans (((cell_far (p := ⟨gb248, _, none⟩) NB247_248.out _).trans (hHeld.1)))), ((cell_far (p := ⟨gb248, _, none⟩) NB247_248.out _).trans (((cell_far (p := ⟨gb248, _, none⟩) NB247_248.out _).trans (hHeld.2))))⟩ (fun hHeld => ?_)
  clear hK K
  refine done_ (by kernel_rfl) ?_
  try go_wp2
  refine bodyPost_ret (results_cell_row rfl _ _ gb248 25 #[.int .i64 t256, .slice Ao33 t257.length co33] (0, 0) _ rfl (by refine PX ?_; refine blk_put (cs := #[.int .i64 t256, .slice none 0 0]) ?_ 1 _ rfl; refine PX ?_; refine blk_put (cs := #[.int .i64 0, .slice none 0 0]) ?_ 0 _ rfl; exact BD BK248) Try.underlying25 rfl (by kernel_rfl)) rfl ?_
  exact ⟨_, ER, by refine PRx ?_; exact Kd.R_mono (FR (FR (Kd.R_types HO259.out BK248.out (by decide)))) (fun _ hk => hk.1), spec_l19Split.z2, spec_l19Split.z0⟩
def spec_Open.j0 : Nat → Int → Bool → Int → List (S49) → Option (Int × (List (S49)) × Bool)
 | 0, _, _, _, _ => none
 | k + 1, x1, x18, x261000, x261001 => if x18 = true then (some (0, ([] : List (S49)), false)) else ((spec_l19Copy.f x261000 x261001).bind fun bt263 => ((spec_l19Split.f k bt263.1 bt263.2 x1).bind fun bt267 => (some (bt267.1, bt267.2, true))))
def spec_Open.f (k : Nat) (a0_0 : Int) (l0_1 : List (S49)) (a1 : Int) : Option (Int × (List (S49)) × Bool) := (spec_TableOk.f k a0_0 l0_1).bind fun t262 => (if t262 = true then (if a1 < 0 then (spec_Open.j0 k a1 true a0_0 l0_1) else (spec_Open.j0 k a1 (decide (a1 ≥ a0_0)) a0_0 l0_1)) else (spec_Open.j0 k a1 true a0_0 l0_1))
theorem spec_Open.mono_l : ∀ k, (∀ y0 y1 y2 y3, LeO (spec_Open.j0 k y0 y1 y2 y3) (spec_Open.j0 (k + 1) y0 y1 y2 y3))
 | 0 => fun _ _ _ _ r h => by simp [spec_Open.j0] at h
 | k + 1 => by
  have ih0 := spec_Open.mono_l k
  ·intro y0 y1 y2 y3
   unfold spec_Open.j0
   repeat' first | (with_reducible first | exact ih0 _ _ _ _ | exact spec_TableOk.mono _ _ _ | exact spec_l19Split.mono _ _ _ _ | exact LeO.refl _ | exact LeO.none _ | refine LeO.ite ?_ ?_ | refine LeO.bind ?_ (fun _ => ?_)) | exact ih0 _ _ _ _ | exact spec_TableOk.mono _ _ _ | exact spec_l19Split.mono _ _ _ _ | exact LeO.none _ | refine LeO.ite ?_ ?_ | refine LeO.bind ?_ (fun _ => ?_)
theorem spec_Open.mono : ∀ a0 a1 a2 k, LeO (spec_Open.f k a0 a1 a2) (spec_Open.f (k + 1) a0 a1 a2) := by
 intro a0 a1 a2 k
 have ih0 := spec_Open.mono_l k
 unfold spec_Open.f
 repeat' first | (with_reducible first | exact ih0 _ _ _ _ | exact spec_TableOk.mono _ _ _ | exact spec_l19Split.mono _ _ _ _ | exact LeO.refl _ | exact LeO.none _ | refine LeO.ite ?_ ?_ | refine LeO.bind ?_ (fun _ => ?_)) | exact ih0 _ _ _ _ | exact spec_TableOk.mono _ _ _ | exact spec_l19Split.mono _ _ _ _ | exact LeO.none _ | refine LeO.ite ?_ ?_ | refine LeO.bind ?_ (fun _ => ?_)
theorem spec_Open.z0 {P : Prop} (h : P := by repeat (first | (with_reducible first | exact HB.out | apply below_alloc | apply pw_below_drewN | apply below_drew1 | refine below_set ?_ GE260.out | refine below_set ?_ GE261.out) | exact HB.out)) : P := h
set_option maxHeartbeats 8000000 in
set_option maxRecDepth 100000 in
theorem spec_Open.calls (k : Nat) (a0_0 : Int) (A0_1 : Option Addr) (c0_1 : Nat) (l0_1 : List (S49)) (a1 : Int) (r1 : Int) (r2 : List (S49)) (r3 : Bool) (w : World) (hr0_1 : Kd.C k49 w A0_1 l0_1.length l0_1) (hc0_1 : l0_1.length ≤ c0_1) (h : spec_Open.f k a0_0 l0_1 a1 = some (r1, r2, r3)) :
  Calls Try.prog 61 #[.agg #[.int .i64 a0_0, .slice A0_1 l0_1.length c0_1], .int .i64 a1] w fun e w' => ∃ v1_ : Value, e = .returned (.tuple #[.agg #[.int .i64 r1, v1_], .bool r3]) ∧ Kd.R k49 49 w' w.heap.size (fun _ => True) v1_ r2 ∧ Below w.heap.size w w' := by
 have hu25 := Try.underlying25
 have HR0_1 := Aside0.mk hr0_1
 have HC0_1 := Aside0.mk hc0_1
 clear hr0_1 hc0_1
 have HB := Aside0.mk (Below.refl w.heap.size w)
 have H : ((spec_TableOk.f k a0_0 l0_1).bind fun t262 => (if t262 = true then (if a1 < 0 then (spec_Open.j0 k a1 true a0_0 l0_1) else (spec_Open.j0 k a1 (decide (a1 ≥ a0_0)) a0_0 l0_1)) else (spec_Open.j0 k a1 true a0_0 l0_1))) = some (r1, r2, r3) := h
 clear h
 have HC3 := Aside0.mk H
 clear H
 go_enter Try.func61, Try.ntmps61
 go_upto_region 1 with (first | ((with_reducible refine gate_dst (N := 2) rfl ?_); refine box_event ?hg (N := 2) ?hd (cs := #[.int .i64 a0_0, .slice A0_1 l0_1.length c0_1]) (t := 25) ?hr ?_; (case hd => rfl); (case hg => rfl); (case hr => first | (go_simp; done) | (go_simp; rfl)); intro gb260 hg w4 hbox hb; have n_ : _ ∧ _ ∧ _ ∧ _ := ⟨AsM (below_step BL hb), AsM (hbox), AsM ((GL : w.heap.size ≤ gb260)), AsM ((GL : w.heap.size ≤ gb260))⟩; clear HB; obtain ⟨HB, BK260, GW260, GE260⟩ := n_; clear hb hbox hg) | ((with_reducible refine gate_dst (N := 4) rfl ?_); refine box_event ?hg (N := 4) ?hd (cs := #[.int .i64 0, .slice none 0 0]) (t := 25) ?hr ?_; (case hd => rfl); (case hg => rfl); (case hr => first | (go_simp; done) | (go_simp; rfl)); intro gb261 hg w5 hbox hb; have n_ : _ ∧ _ ∧ _ ∧ _ ∧ _ ∧ _ ∧ _ := ⟨AsM (blk_below (BD BK260) hb), AsM (below_step BG hb), AsM (hbox), AsM ((GM : w.heap.size ≤ gb261)), AsM ((GM : w.heap.size ≤ gb261)), AsM ((by rw [hg]; exact Nat.ne_of_lt (blk_lt (BD BK260)) : gb260 ≠ gb261)), AsM ((by rw [hg]; exact Nat.ne_of_gt (blk_lt (BD BK260)) : gb261 ≠ gb260))⟩; clear BK260 HB; obtain ⟨BK260, HB, BK261, GW261, GE261, NB260_261, NB261_260⟩ := n_; clear hb hbox hg))
 (try simp only [Act.put, List.setIfInBounds_toArray, List.set_cons_zero, List.set_cons_succ])
 go_cut [18] (fun v18 wc => ∃ (kq : Nat) (x18_2 : Bool), v18 = .bool x18_2 ∧ Aside0 (spec_Open.j0 kq a1 x18_2 a0_0 l0_1 = some (r1, r2, r3)) ∧ Aside0 (kq ≤ k) ∧ Aside0 (wc.heap[gb260]? = some (.cells #[.int .i64 a0_0, (.slice A0_1 l0_1.length c0_1)] 25 (0, 0))) ∧ Aside0 (wc.heap[gb261]? = some (.cells #[.int .i64 0, (.slice none 0 0)] 25 (0, 0))) ∧ Aside0 (Below w.heap.size w wc))
 case first =>
  have H := HC3.out
  clear HC3
  replace H := BS H
  obtain ⟨t262, A60, H⟩ := H
  have A6 := Aside0.mk A60
  clear A60
  by_cases c7 : t262 = true
  ·subst c7
   replace H := IP H
   by_cases c8 : a1 < 0
   ·rw [if_pos c8] at H
    have c8b0 : decide (a1 < 0) = true := decide_eq_true c8
    clear c8
    (first | rw [c8b0] | (simp only [i64_w, i32_w]; rw [c8b0]) | skip)
    have H' := Aside0.mk H
    clear H
    have hnb9 := NB260_261.out
    have hnc9 := NB261_260.out
    obtain ⟨hcz10_0, hcz10_1, hfz10_0, hfz10_1⟩ := bk2 BK260.out
    go_wp2_with (first | ((with_reducible refine gate_callee (f := 40) rfl ?_); refine goesL_ (some 7) rfl rfl Try.func40 (by kernel_rfl) rfl #[.agg #[.int .i64 a0_0, .slice A0_1 l0_1.length c0_1]] rfl AQ ?_; (with_reducible refine (spec_TableOk.calls k a0_0 _ _ l0_1 true _ ?side1 ?side2 A6.out).mono ?_); (case side1 => exact SC HR0_1); (case side2 => exact HC0_1.out); rintro e w11 ⟨rfl, hb⟩; refine ⟨_, rfl, ?_⟩; have n_ : _ ∧ _ ∧ _ := ⟨AsM (blk_below (BD BK260) hb), AsM (blk_below (BD BK261) hb), AsM (below_step BG hb)⟩; clear BK260 BK261 HB; obtain ⟨BK260, BK261, HB⟩ := n_; (try clear hb); (try clear hb2); (try clear hk); (try clear hi)))
    go_meet
    case rel => exact ⟨_, (true), RS, H', ⟨by first | omega | exact Nat.le_refl _⟩, ⟨BD BK260⟩, ⟨BD BK261⟩, ⟨spec_Open.z0⟩⟩
   ·rw [if_neg c8] at H
    have c8b0 : decide (a1 < 0) = false := decide_eq_false c8
    clear c8
    (first | rw [c8b0] | (simp only [i64_w, i32_w]; rw [c8b0]) | skip)
    have H' := Aside0.mk H
    clear H
    have hnb12 := NB260_261.out
    have hnc12 := NB261_260.out
    obtain ⟨hcz13_0, hcz13_1, hfz13_0, hfz13_1⟩ := bk2 BK260.out
    go_wp2_with (first | ((with_reducible refine gate_callee (f := 40) rfl ?_); refine goesL_ (some 7) rfl rfl Try.func40 (by kernel_rfl) rfl #[.agg #[.int .i64 a0_0, .slice A0_1 l0_1.length c0_1]] rfl AQ ?_; (with_reducible refine (spec_TableOk.calls k a0_0 _ _ l0_1 true _ ?side1 ?side2 A6.out).mono ?_); (case side1 => exact SC HR0_1); (case side2 => exact HC0_1.out); rintro e w14 ⟨rfl, hb⟩; refine ⟨_, rfl, ?_⟩; have n_ : _ ∧ _ ∧ _ := ⟨AsM (blk_below (BD BK260) hb), AsM (blk_below (BD BK261) hb), AsM (below_step BG hb)⟩; clear BK260 BK261 HB; obtain ⟨BK260, BK261, HB⟩ := n_; (try clear hb); (try clear hb2); (try clear hk); (try clear hi); obtain ⟨hcz15_0, hcz15_1, hfz15_0, hfz15_1⟩ := bk2 BK260.out))
    go_meet
    case rel => exact ⟨_, (decide (a1 ≥ a0_0)), RS, H', ⟨by first | omega | exact Nat.le_refl _⟩, ⟨BD BK260⟩, ⟨BD BK261⟩, ⟨spec_Open.z0⟩⟩
  ·replace c7 := Bool.eq_false_iff.mpr c7
   subst c7
   replace H := IN H
   have H' := Aside0.mk H
   clear H
   have hnb16 := NB260_261.out
   have hnc16 := NB261_260.out
   obtain ⟨hcz17_0, hcz17_1, hfz17_0, hfz17_1⟩ := bk2 BK260.out
   go_wp2_with (first | ((with_reducible refine gate_callee (f := 40) rfl ?_); refine goesL_ (some 7) rfl rfl Try.func40 (by kernel_rfl) rfl #[.agg #[.int .i64 a0_0, .slice A0_1 l0_1.length c0_1]] rfl AQ ?_; (with_reducible refine (spec_TableOk.calls k a0_0 _ _ l0_1 false _ ?side1 ?side2 A6.out).mono ?_); (case side1 => exact SC HR0_1); (case side2 => exact HC0_1.out); rintro e w18 ⟨rfl, hb⟩; refine ⟨_, rfl, ?_⟩; have n_ : _ ∧ _ ∧ _ := ⟨AsM (blk_below (BD BK260) hb), AsM (blk_below (BD BK261) hb), AsM (below_step BG hb)⟩; clear BK260 BK261 HB; obtain ⟨BK260, BK261, HB⟩ := n_; (try clear hb); (try clear hb2); (try clear hk); (try clear hi)))
   go_meet
   case rel => exact ⟨_, (true), RS, H', ⟨by first | omega | exact Nat.le_refl _⟩, ⟨BD BK260⟩, ⟨BD BK261⟩, ⟨spec_Open.z0⟩⟩
 case rest =>
  clear HC3
  try clear c1
  try clear p2
  try clear c4
  try clear c6
  try clear c7
  try clear c8
  try clear c8b0
  try clear c9
  try clear c12
  try clear c16
  try clear hcz10_0
  try clear hcz10_1
  try clear hcz13_0
  try clear hcz13_1
  try clear hcz15_0
  try clear hcz15_1
  try clear hcz17_0
  try clear hcz17_1
  try clear hfz10_0
  try clear hfz10_1
  try clear hfz13_0
  try clear hfz13_1
  try clear hfz15_0
  try clear hfz15_1
  try clear hfz17_0
  try clear hfz17_1
  obtain ⟨kq, x18_2, rfl, HA, HJ2, BK260, BK261, HB⟩ := hcut
  cases kq with
  | zero => exact absurd HA.out (by simp [spec_Open.j0])
  | succ kj2 =>
   have H := HA.out
   clear HA
   simp only [spec_Open.j0] at H
   by_cases c19 : x18_2 = true
   ·subst c19
    replace H := IP H
    simp only [Option.some.injEq, Prod.mk.injEq] at H
    obtain ⟨rfl, rfl, rfl⟩ := H
    have hnb20 := NB261_260.out
    have hnc20 := NB260_261.out
    obtain ⟨hcz21_0, hcz21_1, hfz21_0, hfz21_1⟩ := bk2 BK261.out
    go_wp2
    refine bodyPost_ret (results_ct rfl _ _ gb261 25 #[.int .i64 0, .slice none 0 0] (0, 0) _ rfl (by refine PX ?_; refine blk_put (cs := #[.int .i64 0, .slice none 0 0]) ?_ 1 _ rfl; refine PX ?_; refine blk_put (cs := #[.int .i64 0, .slice none 0 0]) ?_ 0 _ rfl; exact BD BK261) Try.underlying25 rfl (by kernel_rfl)) rfl ?_
    exact ⟨_, ER, by first | exact Kd.R_nil _ _ _ _ _ | exact Kd.N_nil _ _ _ _ _ | exact Kd.V_nil _ _ _ _ _ | exact Kd.Q_nil _ _ _ _ _ | exact Kd.S_nil _ _ _ _ _, BG⟩
   ·replace c19 := Bool.eq_false_iff.mpr c19
    subst c19
    replace H := IN H
    replace H := BS H
    obtain ⟨⟨t263, t264⟩, A220, H⟩ := H
    have A22 := Aside0.mk A220
    clear A220
    replace H := BS H
    obtain ⟨⟨t267, t268⟩, A230, H⟩ := H
    have A23 := Aside0.mk A230
    clear A230
    simp only [Option.some.injEq, Prod.mk.injEq] at H
    obtain ⟨rfl, rfl, rfl⟩ := H
    have hnb24 := NB260_261.out
    have hnc24 := NB261_260.out
    obtain ⟨hcz25_0, hcz25_1, hfz25_0, hfz25_1⟩ := bk2 BK260.out
    go_wp2_with (first | ((with_reducible refine gate_callee (f := 76) rfl ?_); refine goesL_ (some 21) rfl rfl Try.func76 (by kernel_rfl) rfl #[.agg #[.int .i64 a0_0, .slice A0_1 l0_1.length c0_1]] rfl AQ ?_; (with_reducible refine (spec_l19Copy.calls a0_0 _ _ l0_1 t263 t264 _ ?side1 ?side2 A22.out).mono ?_); (case side1 => exact SC HR0_1); (case side2 => exact HC0_1.out); rintro e w26 ⟨v265, rfl, ho0, hb⟩; refine ⟨_, rfl, ?_⟩; have n_ : _ ∧ _ ∧ _ ∧ _ := ⟨AsM (Kd.R_lower ho0 (below_size BG)), AsM (blk_below (BD BK260) hb), AsM (blk_below (BD BK261) hb), AsM (below_step BG hb)⟩; clear BK260 BK261 HB; obtain ⟨HO266, BK260, BK261, HB⟩ := n_; (try clear hb); (try clear hb2); (try clear hk); (try clear hi); (try clear ho0); obtain ⟨Ao27, co27, eo27⟩ := Kd.R_slice HO266.out; subst eo27) | ((with_reducible refine gate_callee (f := 77) rfl ?_); refine goesL_ (some 23) rfl rfl Try.func77 (by kernel_rfl) rfl #[.agg #[.int .i64 t263, .slice Ao27 t264.length co27], .int .i64 a1] rfl AQ ?_; (with_reducible refine (spec_l19Split.calls kj2 t263 (fun k_ => some k_ = (.slice Ao27 t264.length co27 : Value).ownBlock) (.slice Ao27 t264.length co27) t264 a1 t267 t268 w _ ?side1 ?side2 A23.out).mono ?_); (case side1 => repeat (first | (with_reducible first | exact HB.out | apply below_alloc | apply pw_below_drewN | apply below_drew1 | refine below_set ?_ GE260.out | refine below_set ?_ GE261.out) | exact HB.out)); (case side2 => exact Kd.R_tight rfl HO266.out); rintro e w28 ⟨v269, rfl, ho0, hb, hkp⟩; refine ⟨_, rfl, ?_⟩; have n_ : _ ∧ _ ∧ _ ∧ _ := ⟨AsM (blk_kept (BD BK260) hkp (fun hs_ => (fun e_ => (Kd.R_ne HO266.out BK260.out (by decide)) e_) hs_)), AsM (blk_kept (BD BK261) hkp (fun hs_ => (fun e_ => (Kd.R_ne HO266.out BK261.out (by decide)) e_) hs_)), AsM (Kd.R_mono (ok' := fun k_ => True) ho0 (fun k_ hk_ => trivial)), AsM (hb)⟩; clear BK260 BK261 HB HO266; obtain ⟨BK260, BK261, HO270, HB⟩ := n_; (try clear hb); (try clear hkp); (try clear ho0); obtain ⟨hcz29_0, hcz29_1, hfz29_0, hfz29_1⟩ := bk2 BK261.out; obtain ⟨Ao30, co30, eo30⟩ := Kd.R_slice HO270.out; subst eo30))
    refine bodyPost_ret (results_ct rfl _ _ gb261 25 #[.int .i64 t267, .slice Ao30 t268.length co30] (0, 0) _ rfl (by refine PX ?_; refine blk_put (cs := #[.int .i64 t267, .slice none 0 0]) ?_ 1 _ rfl; refine PX ?_; refine blk_put (cs := #[.int .i64 0, .slice none 0 0]) ?_ 0 _ rfl; exact BD BK261) Try.underlying25 rfl (by kernel_rfl)) rfl ?_
    exact ⟨_, ER, by refine PRx ?_; exact Kd.R_mono (FR (FR (Kd.R_types HO270.out BK261.out (by decide)))) (fun _ hk => trivial), BG⟩
def spec_Del.f (k : Nat) (a0_0 : Int) (l0_1 : List (S49)) (a1 : ByteArray) : Option (Int × (List (S49)) × Bool) := (spec_TableOk.f k a0_0 l0_1).bind fun t273 => (if t273 = true then ((spec_l19Copy.f a0_0 l0_1).bind fun bt274 => ((spec_l19Key.f k a1).bind fun bt279 => ((spec_l19At.f k a0_0 l0_1 bt279.1 bt279.2).bind fun t281 => (if t281 < 0 then (some (bt274.1, bt274.2, false)) else (if a1.toList = ([] : List UInt8) then (some (bt274.1, bt274.2, false)) else (if 0 ≤ t281 then (if t281 ≤ (bt274.2.length : Int) then (if 0 ≤ (wrap64 (t281 + 1)) then (if (wrap64 (t281 + 1)) ≤ (bt274.2.length : Int) then (some (bt274.1, (bt274.2.eraseIdx (t281 : Int).toNat), true)) else (none)) else (none)) else (none)) else (none))))))) else (some (0, ([] : List (S49)), false)))
theorem spec_Del.mono : ∀ a0 a1 a2 k, LeO (spec_Del.f k a0 a1 a2) (spec_Del.f (k + 1) a0 a1 a2) := by
 intro a0 a1 a2 k
 unfold spec_Del.f
 repeat' first | (with_reducible first | exact spec_TableOk.mono _ _ _ | exact spec_l19At.mono _ _ _ _ _ | exact spec_l19Key.mono _ _ | exact LeO.refl _ | exact LeO.none _ | refine LeO.ite ?_ ?_ | refine LeO.bind ?_ (fun _ => ?_)) | exact spec_TableOk.mono _ _ _ | exact spec_l19At.mono _ _ _ _ _ | exact spec_l19Key.mono _ _ | exact LeO.none _ | refine LeO.ite ?_ ?_ | refine LeO.bind ?_ (fun _ => ?_)
def spec_Del.T7 : Bool × List (List Nat × List Nat) := (true, [([], []), ([0], [0]), ([], []), ([1, 2], [1, 2]), ([], []), ([4], [4]), ([], []), ([6], [6]), ([5, 7], [5, 7]), ([3, 8], [3, 8]), ([0, 1, 2, 3, 4, 5, 6, 7, 8, 9], []), ([10, 9, 9, 0, 1, 2, 3, 4, 5, 6, 7, 8, 9], [9, 10])])
def spec_Del.B7 : List Nat := [0, 1, 0, 7, 0, 16, 0, 64, 240, 511, 1023, 2047]
theorem spec_Del.tab7 : rtab .any (opsOf Try.f62 7) = spec_Del.T7 := by kernel_rfl
theorem spec_Del.bits7 : waitsOk spec_Del.T7.2 spec_Del.B7 = true := by kernel_rfl
theorem spec_Del.z0 {P : Prop} (h : P := by repeat (first | (with_reducible first | exact HB.out | apply below_alloc | apply pw_below_drewN | apply below_drew1 | refine below_set ?_ GE271.out | refine below_set ?_ GE272.out | refine below_set ?_ GE278.out) | exact HB.out)) : P := h
theorem spec_Del.z1 {P : Prop} (h : P := by refine PX ?_; refine blk_put (cs := #[.int .i64 t274, .slice none 0 0]) ?_ 1 _ rfl; refine PX ?_; refine blk_put (cs := #[.int .i64 0, .slice none 0 0]) ?_ 0 _ rfl; exact BD BK278) : P := h
theorem spec_Del.z2 {P : Prop} (h : P := by refine PX ?_; refine blk_far ?_ NB271_278.out _; refine PX ?_; refine blk_far ?_ NB271_278.out _; exact BD BK271) : P := h
theorem spec_Del.z3 {P : Prop} (h : P := by refine PX ?_; refine blk_far ?_ NB272_278.out _; refine PX ?_; refine blk_far ?_ NB272_278.out _; exact BD BK272) : P := h
theorem spec_Del.z4 {P : Prop} (h : P := by rw [hg]; exact Nat.ne_of_lt (blk_lt (BD BK271))) : P := h
theorem spec_Del.z5 {P : Prop} (h : P := by rw [hg]; exact Nat.ne_of_gt (blk_lt (BD BK271))) : P := h
theorem spec_Del.z6 {P : Prop} (h : P := by refine PRx ?_; exact Kd.R_mono (FR (FR (Kd.R_types HO277.out BK278.out (by decide)))) (fun _ hk => trivial)) : P := h
set_option maxHeartbeats 8000000 in
set_option maxRecDepth 100000 in
theorem spec_Del.calls (k : Nat) (a0_0 : Int) (A0_1 : Option Addr) (c0_1 : Nat) (l0_1 : List (S49)) (a1 : ByteArray) (r1 : Int) (r2 : List (S49)) (r3 : Bool) (w : World) (hr0_1 : Kd.C k49 w A0_1 l0_1.length l0_1) (hc0_1 : l0_1.length ≤ c0_1) (h : spec_Del.f k a0_0 l0_1 a1 = some (r1, r2, r3)) :
  Calls Try.prog 62 #[.agg #[.int .i64 a0_0, .slice A0_1 l0_1.length c0_1], .string a1] w fun e w' => ∃ v1_ : Value, e = .returned (.tuple #[.agg #[.int .i64 r1, v1_], .bool r3]) ∧ Kd.R k49 49 w' w.heap.size (fun _ => True) v1_ r2 ∧ Below w.heap.size w w' := by
 have hu25 := Try.underlying25
 have HR0_1 := Aside0.mk hr0_1
 have HC0_1 := Aside0.mk hc0_1
 clear hr0_1 hc0_1
 have HB := Aside0.mk (Below.refl w.heap.size w)
 have H : ((spec_TableOk.f k a0_0 l0_1).bind fun t273 => (if t273 = true then ((spec_l19Copy.f a0_0 l0_1).bind fun bt274 => ((spec_l19Key.f k a1).bind fun bt279 => ((spec_l19At.f k a0_0 l0_1 bt279.1 bt279.2).bind fun t281 => (if t281 < 0 then (some (bt274.1, bt274.2, false)) else (if a1.toList = ([] : List UInt8) then (some (bt274.1, bt274.2, false)) else (if 0 ≤ t281 then (if t281 ≤ (bt274.2.length : Int) then (if 0 ≤ (wrap64 (t281 + 1)) then (if (wrap64 (t281 + 1)) ≤ (bt274.2.length : Int) then (some (bt274.1, (bt274.2.eraseIdx (t281 : Int).toNat), true)) else (none)) else (none)) else (none)) else (none))))))) else (some (0, ([] : List (S49)), false)))) = some (r1, r2, r3) := h
 clear h
 replace H := BS H
 obtain ⟨t273, A30, H⟩ := H
 have A3 := Aside0.mk A30
 clear A30
 by_cases c4 : t273 = true
 ·subst c4
  replace H := IP H
  replace H := BS H
  obtain ⟨⟨t274, t275⟩, A50, H⟩ := H
  have A5 := Aside0.mk A50
  clear A50
  replace H := BS H
  obtain ⟨⟨t279, t280⟩, A60, H⟩ := H
  have A6 := Aside0.mk A60
  clear A60
  replace H := BS H
  obtain ⟨t281, A70, H⟩ := H
  have A7 := Aside0.mk A70
  clear A70
  by_cases c8 : t281 < 0
  ·rw [if_pos c8] at H
   have c8b0 : decide (t281 < 0) = true := decide_eq_true c8
   clear c8
   simp only [Option.some.injEq, Prod.mk.injEq] at H
   obtain ⟨rfl, rfl, rfl⟩ := H
   go_enter Try.func62, Try.ntmps62
   try go_wp2_with (first | ((with_reducible refine gate_dst (N := 2) rfl ?_); refine box_event ?hg (N := 2) ?hd (cs := #[.int .i64 a0_0, .slice A0_1 l0_1.length c0_1]) (t := 25) ?hr ?_; (case hd => rfl); (case hg => rfl); (case hr => first | (go_simp; done) | (go_simp; rfl)); intro gb271 hg w9 hbox hb; have n_ : _ ∧ _ ∧ _ ∧ _ := ⟨AsM (below_step BL hb), AsM (hbox), AsM ((GL : w.heap.size ≤ gb271)), AsM ((GL : w.heap.size ≤ gb271))⟩; clear HB; obtain ⟨HB, BK271, GW271, GE271⟩ := n_; clear hb hbox hg) | ((with_reducible refine gate_dst (N := 4) rfl ?_); refine box_event ?hg (N := 4) ?hd (cs := #[.int .i64 0, .slice none 0 0]) (t := 25) ?hr ?_; (case hd => rfl); (case hg => rfl); (case hr => first | (go_simp; done) | (go_simp; rfl)); intro gb272 hg w10 hbox hb; have n_ : _ ∧ _ ∧ _ ∧ _ ∧ _ ∧ _ ∧ _ := ⟨AsM (blk_below (BD BK271) hb), AsM (below_step BG hb), AsM (hbox), AsM ((GM : w.heap.size ≤ gb272)), AsM ((GM : w.heap.size ≤ gb272)), AsM ((spec_Del.z4 : gb271 ≠ gb272)), AsM ((spec_Del.z5 : gb272 ≠ gb271))⟩; clear BK271 HB; obtain ⟨BK271, HB, BK272, GW272, GE272, NB271_272, NB272_271⟩ := n_; clear hb hbox hg; have hnb11 := NB271_272.out; have hnc11 := NB272_271.out; obtain ⟨hcz12_0, hcz12_1, hfz12_0, hfz12_1⟩ := bk2 BK271.out) | ((with_reducible refine gate_callee (f := 40) rfl ?_); refine goesL_ (some 9) rfl rfl Try.func40 (by kernel_rfl) rfl #[.agg #[.int .i64 a0_0, .slice A0_1 l0_1.length c0_1]] rfl AQ ?_; (with_reducible refine (spec_TableOk.calls k a0_0 _ _ l0_1 true _ ?side1 ?side2 A3.out).mono ?_); (case side1 => exact SC HR0_1); (case side2 => exact HC0_1.out); rintro e w13 ⟨rfl, hb⟩; refine ⟨_, rfl, ?_⟩; have n_ : _ ∧ _ ∧ _ := ⟨AsM (blk_below (BD BK271) hb), AsM (blk_below (BD BK272) hb), AsM (below_step BG hb)⟩; clear BK271 BK272 HB; obtain ⟨BK271, BK272, HB⟩ := n_; (try clear hb); (try clear hb2); (try clear hk); (try clear hi); obtain ⟨hcz14_0, hcz14_1, hfz14_0, hfz14_1⟩ := bk2 BK271.out) | ((with_reducible refine gate_callee (f := 76) rfl ?_); refine goesL_ (some 13) rfl rfl Try.func76 (by kernel_rfl) rfl #[.agg #[.int .i64 a0_0, .slice A0_1 l0_1.length c0_1]] rfl AQ ?_; (with_reducible refine (spec_l19Copy.calls a0_0 _ _ l0_1 t274 t275 _ ?side1 ?side2 A5.out).mono ?_); (case side1 => exact SC HR0_1); (case side2 => exact HC0_1.out); rintro e w15 ⟨v276, rfl, ho0, hb⟩; refine ⟨_, rfl, ?_⟩; have n_ : _ ∧ _ ∧ _ ∧ _ := ⟨AsM (Kd.R_lower ho0 (below_size BG)), AsM (blk_below (BD BK271) hb), AsM (blk_below (BD BK272) hb), AsM (below_step BG hb)⟩; clear BK271 BK272 HB; obtain ⟨HO277, BK271, BK272, HB⟩ := n_; (try clear hb); (try clear hb2); (try clear hk); (try clear hi); (try clear ho0)) | ((with_reducible refine gate_dst (N := 6) rfl ?_); refine box_event ?hg (N := 6) ?hd (cs := #[.int .i64 0, .slice none 0 0]) (t := 25) ?hr ?_; (case hd => rfl); (case hg => rfl); (case hr => first | (go_simp; done) | (go_simp; rfl)); intro gb278 hg w16 hbox hb; have n_ : _ ∧ _ ∧ _ ∧ _ ∧ _ ∧ _ ∧ _ ∧ _ ∧ _ ∧ _ ∧ _ := ⟨AsM (Kd.R_below (RD HO277) hb), AsM (blk_below (BD BK271) hb), AsM (blk_below (BD BK272) hb), AsM (below_step BG hb), AsM (hbox), AsM ((GM : w.heap.size ≤ gb278)), AsM ((GM : w.heap.size ≤ gb278)), AsM ((spec_Del.z4 : gb271 ≠ gb278)), AsM ((spec_Del.z5 : gb278 ≠ gb271)), AsM ((by rw [hg]; exact Nat.ne_of_lt (blk_lt (BD BK272)) : gb272 ≠ gb278)), AsM ((by rw [hg]; exact Nat.ne_of_gt (blk_lt (BD BK272)) : gb278 ≠ gb272))⟩; clear HO277 BK271 BK272 HB; obtain ⟨HO277, BK271, BK272, HB, BK278, GW278, GE278, NB271_278, NB278_271, NB272_278, NB278_272⟩ := n_; clear hb hbox hg; have hnb17 := NB278_271.out; have hnc17 := NB271_278.out; have hnb18 := NB278_272.out; have hnc18 := NB272_278.out; obtain ⟨hcz19_0, hcz19_1, hfz19_0, hfz19_1⟩ := bk2 BK278.out; obtain ⟨Ao20, co20, eo20⟩ := Kd.R_slice HO277.out; subst eo20))
   have n0_ : Aside0 (Kd.R k49 49 ((w16.setCell ⟨gb278, 0, none⟩ (.int .i64 t274)).setCell ⟨gb278, 1, none⟩ (.slice Ao20 t275.length co20)) w.heap.size (fun _ => True) (.slice Ao20 t275.length co20) t275) := ⟨spec_Del.z6⟩
   have n1_ : Aside0 (((w16.setCell ⟨gb278, 0, none⟩ (.int .i64 t274)).setCell ⟨gb278, 1, none⟩ (.slice Ao20 t275.length co20)).heap[gb271]? = some (.cells #[.int .i64 a0_0, .slice A0_1 l0_1.length c0_1] 25 (0, 0))) := ⟨spec_Del.z2⟩
   have n2_ : Aside0 (((w16.setCell ⟨gb278, 0, none⟩ (.int .i64 t274)).setCell ⟨gb278, 1, none⟩ (.slice Ao20 t275.length co20)).heap[gb272]? = some (.cells #[.int .i64 0, .slice none 0 0] 25 (0, 0))) := ⟨spec_Del.z3⟩
   have n3_ : Aside0 (((w16.setCell ⟨gb278, 0, none⟩ (.int .i64 t274)).setCell ⟨gb278, 1, none⟩ (.slice Ao20 t275.length co20)).heap[gb278]? = some (.cells #[.int .i64 t274, .slice Ao20 t275.length co20] 25 (0, 0))) := ⟨spec_Del.z1⟩
   have n4_ : Aside0 (Below w.heap.size w ((w16.setCell ⟨gb278, 0, none⟩ (.int .i64 t274)).setCell ⟨gb278, 1, none⟩ (.slice Ao20 t275.length co20))) := ⟨spec_Del.z0⟩
   (try clear HO277)
   (try clear BK271)
   (try clear BK272)
   (try clear BK278)
   (try clear HB)
   generalize ((w16.setCell ⟨gb278, 0, none⟩ (.int .i64 t274)).setCell ⟨gb278, 1, none⟩ (.slice Ao20 t275.length co20)) = w21 at n0_ n1_ n2_ n3_ n4_ ⊢
   have HO277 := n0_
   have BK271 := n1_
   have BK272 := n2_
   have BK278 := n3_
   have HB := n4_
   clear n0_ n1_ n2_ n3_ n4_
   have n_ : _ ∧ _ ∧ _ ∧ _ ∧ _ := ⟨AsM (Kd.R_drew HO277.out), AsM (blk_drew BK271.out), AsM (blk_drew BK272.out), AsM (blk_drew BK278.out), AsM (below_drew1 HB.out)⟩
   clear HO277 BK271 BK272 BK278 HB
   obtain ⟨HO277, BK271, BK272, BK278, HB⟩ := n_
   refine start_ (n := 5) (S := fun w' => w'.cell? ⟨gb271, 0, none⟩ = some (.int .i64 a0_0) ∧ w'.cell? ⟨gb271, 1, none⟩ = some (.slice A0_1 l0_1.length c0_1)) (ds := []) #[false, false, false, false, false] (by kernel_rfl) rfl rfl ⟨(blk_cell BK271.out 0).trans rfl, (blk_cell BK271.out 1).trans rfl⟩ (fun hHeld => ?_)
   generalize w21.drew = w22 at HO277 BK271 BK272 BK278 HB hHeld ⊢
   refine PV (i := 1) (N := some 15) #[false, true, false, false, false] rfl rfl ?_
   refine PK (i := 0) (N := some 14) (tf 2 3) rfl rfl hHeld ?_
   refine one_ (i := 2) (N := some 16) (tf 3 2) rfl rfl (by kernel_rfl) (by decide) (fun K hK => ?_)
   refine goes_ Try.func59 (by kernel_rfl) rfl #[.string a1] (by rfl) rfl rfl AQ ?_
   with_reducible refine (spec_l19Key.calls k a1 t279 t280 _ A6.out).mono ?_
   rintro e w23 ⟨rfl, hb⟩
   refine ⟨_, rfl, ?_⟩
   have n_ : _ ∧ _ ∧ _ ∧ _ ∧ _ := ⟨AsM (Kd.R_below (RD HO277) hb), AsM (blk_below (BD BK271) hb), AsM (blk_below (BD BK272) hb), AsM (blk_below (BD BK278) hb), AsM (below_step BG hb)⟩
   clear HO277 BK271 BK272 BK278 HB
   obtain ⟨HO277, BK271, BK272, BK278, HB⟩ := n_
   (try clear hb)
   (try clear hb2)
   (try clear hk)
   (try clear hi)
   refine hK.out _ _ ⟨(blk_cell BK271.out 0).trans rfl, (blk_cell BK271.out 1).trans rfl⟩ (fun hHeld => ?_)
   clear hK K
   refine NM (some 16) ?_
   refine one_ (i := 3) (N := some 17) (tf 4 1) rfl rfl (by kernel_rfl) (by decide) (fun K hK => ?_)
   refine goes_ Try.func54 (by kernel_rfl) rfl #[.agg #[.int .i64 a0_0, .slice A0_1 l0_1.length c0_1], .agg #[.int .i64 t279, .string t280]] (by rfl) rfl rfl AQ ?_
   with_reducible refine (spec_l19At.calls k a0_0 _ _ l0_1 t279 t280 t281 _ ?side1 ?side2 A7.out).mono ?_
   (case side1 => exact SC HR0_1)
   (case side2 => exact HC0_1.out)
   rintro e w24 ⟨rfl, hb⟩
   refine ⟨_, rfl, ?_⟩
   have n_ : _ ∧ _ ∧ _ ∧ _ ∧ _ := ⟨AsM (Kd.R_below (RD HO277) hb), AsM (blk_below (BD BK271) hb), AsM (blk_below (BD BK272) hb), AsM (blk_below (BD BK278) hb), AsM (below_step BG hb)⟩
   clear HO277 BK271 BK272 BK278 HB
   obtain ⟨HO277, BK271, BK272, BK278, HB⟩ := n_
   (try clear hb)
   (try clear hb2)
   (try clear hk)
   (try clear hi)
   refine hK.out _ _ ⟨(blk_cell BK271.out 0).trans rfl, (blk_cell BK271.out 1).trans rfl⟩ (fun hHeld => ?_)
   clear hK K
   refine NM (some 17) ?_
   refine PV (i := 4) (N := some 7) (tf 5 0) rfl rfl ?_
   refine done_ (by kernel_rfl) ?_
   obtain ⟨hcz25_0, hcz25_1, hfz25_0, hfz25_1⟩ := bk2 BK278.out
   obtain ⟨hcz26_0, hcz26_1, hfz26_0, hfz26_1⟩ := bk2 BK272.out
   try go_wp2
   refine bodyPost_ret (results_ct rfl _ _ gb272 25 #[.int .i64 t274, .slice Ao20 t275.length co20] (0, 0) _ rfl (by refine PX ?_; refine blk_put (cs := #[.int .i64 t274, .slice none 0 0]) ?_ 1 _ rfl; refine PX ?_; refine blk_put (cs := #[.int .i64 0, .slice none 0 0]) ?_ 0 _ rfl; exact BD BK272) Try.underlying25 rfl (by kernel_rfl)) rfl ?_
   exact ⟨_, ER, by refine PRx ?_; exact Kd.R_mono (FR (FR (Kd.R_types HO277.out BK272.out (by decide)))) (fun _ hk => trivial), BG⟩
  ·rw [if_neg c8] at H
   have c8b0 : decide (t281 < 0) = false := decide_eq_false c8
   clear c8
   by_cases c27 : a1.toList = ([] : List UInt8)
   ·rw [if_pos c27] at H
    have c27b0 : (a1.toList == ([] : List UInt8)) = true := beq_iff_eq.mpr c27
    have c27b1 : (a1.toList != ([] : List UInt8)) = false := bne_eq_false_iff_eq.mpr c27
    clear c27
    simp only [Option.some.injEq, Prod.mk.injEq] at H
    obtain ⟨rfl, rfl, rfl⟩ := H
    go_enter Try.func62, Try.ntmps62
    try go_wp2_with (first | ((with_reducible refine gate_dst (N := 2) rfl ?_); refine box_event ?hg (N := 2) ?hd (cs := #[.int .i64 a0_0, .slice A0_1 l0_1.length c0_1]) (t := 25) ?hr ?_; (case hd => rfl); (case hg => rfl); (case hr => first | (go_simp; done) | (go_simp; rfl)); intro gb271 hg w28 hbox hb; have n_ : _ ∧ _ ∧ _ ∧ _ := ⟨AsM (below_step BL hb), AsM (hbox), AsM ((GL : w.heap.size ≤ gb271)), AsM ((GL : w.heap.size ≤ gb271))⟩; clear HB; obtain ⟨HB, BK271, GW271, GE271⟩ := n_; clear hb hbox hg) | ((with_reducible refine gate_dst (N := 4) rfl ?_); refine box_event ?hg (N := 4) ?hd (cs := #[.int .i64 0, .slice none 0 0]) (t := 25) ?hr ?_; (case hd => rfl); (case hg => rfl); (case hr => first | (go_simp; done) | (go_simp; rfl)); intro gb272 hg w29 hbox hb; have n_ : _ ∧ _ ∧ _ ∧ _ ∧ _ ∧ _ ∧ _ := ⟨AsM (blk_below (BD BK271) hb), AsM (below_step BG hb), AsM (hbox), AsM ((GM : w.heap.size ≤ gb272)), AsM ((GM : w.heap.size ≤ gb272)), AsM ((spec_Del.z4 : gb271 ≠ gb272)), AsM ((spec_Del.z5 : gb272 ≠ gb271))⟩; clear BK271 HB; obtain ⟨BK271, HB, BK272, GW272, GE272, NB271_272, NB272_271⟩ := n_; clear hb hbox hg; have hnb30 := NB271_272.out; have hnc30 := NB272_271.out; obtain ⟨hcz31_0, hcz31_1, hfz31_0, hfz31_1⟩ := bk2 BK271.out) | ((with_reducible refine gate_callee (f := 40) rfl ?_); refine goesL_ (some 9) rfl rfl Try.func40 (by kernel_rfl) rfl #[.agg #[.int .i64 a0_0, .slice A0_1 l0_1.length c0_1]] rfl AQ ?_; (with_reducible refine (spec_TableOk.calls k a0_0 _ _ l0_1 true _ ?side1 ?side2 A3.out).mono ?_); (case side1 => exact SC HR0_1); (case side2 => exact HC0_1.out); rintro e w32 ⟨rfl, hb⟩; refine ⟨_, rfl, ?_⟩; have n_ : _ ∧ _ ∧ _ := ⟨AsM (blk_below (BD BK271) hb), AsM (blk_below (BD BK272) hb), AsM (below_step BG hb)⟩; clear BK271 BK272 HB; obtain ⟨BK271, BK272, HB⟩ := n_; (try clear hb); (try clear hb2); (try clear hk); (try clear hi); obtain ⟨hcz33_0, hcz33_1, hfz33_0, hfz33_1⟩ := bk2 BK271.out) | ((with_reducible refine gate_callee (f := 76) rfl ?_); refine goesL_ (some 13) rfl rfl Try.func76 (by kernel_rfl) rfl #[.agg #[.int .i64 a0_0, .slice A0_1 l0_1.length c0_1]] rfl AQ ?_; (with_reducible refine (spec_l19Copy.calls a0_0 _ _ l0_1 t274 t275 _ ?side1 ?side2 A5.out).mono ?_); (case side1 => exact SC HR0_1); (case side2 => exact HC0_1.out); rintro e w34 ⟨v276, rfl, ho0, hb⟩; refine ⟨_, rfl, ?_⟩; have n_ : _ ∧ _ ∧ _ ∧ _ := ⟨AsM (Kd.R_lower ho0 (below_size BG)), AsM (blk_below (BD BK271) hb), AsM (blk_below (BD BK272) hb), AsM (below_step BG hb)⟩; clear BK271 BK272 HB; obtain ⟨HO277, BK271, BK272, HB⟩ := n_; (try clear hb); (try clear hb2); (try clear hk); (try clear hi); (try clear ho0)) | ((with_reducible refine gate_dst (N := 6) rfl ?_); refine box_event ?hg (N := 6) ?hd (cs := #[.int .i64 0, .slice none 0 0]) (t := 25) ?hr ?_; (case hd => rfl); (case hg => rfl); (case hr => first | (go_simp; done) | (go_simp; rfl)); intro gb278 hg w35 hbox hb; have n_ : _ ∧ _ ∧ _ ∧ _ ∧ _ ∧ _ ∧ _ ∧ _ ∧ _ ∧ _ ∧ _ := ⟨AsM (Kd.R_below (RD HO277) hb), AsM (blk_below (BD BK271) hb), AsM (blk_below (BD BK272) hb), AsM (below_step BG hb), AsM (hbox), AsM ((GM : w.heap.size ≤ gb278)), AsM ((GM : w.heap.size ≤ gb278)), AsM ((spec_Del.z4 : gb271 ≠ gb278)), AsM ((spec_Del.z5 : gb278 ≠ gb271)), AsM ((by rw [hg]; exact Nat.ne_of_lt (blk_lt (BD BK272)) : gb272 ≠ gb278)), AsM ((by rw [hg]; exact Nat.ne_of_gt (blk_lt (BD BK272)) : gb278 ≠ gb272))⟩; clear HO277 BK271 BK272 HB; obtain ⟨HO277, BK271, BK272, HB, BK278, GW278, GE278, NB271_278, NB278_271, NB272_278, NB278_272⟩ := n_; clear hb hbox hg; have hnb36 := NB278_271.out; have hnc36 := NB271_278.out; have hnb37 := NB278_272.out; have hnc37 := NB272_278.out; obtain ⟨hcz38_0, hcz38_1, hfz38_0, hfz38_1⟩ := bk2 BK278.out; obtain ⟨Ao39, co39, eo39⟩ := Kd.R_slice HO277.out; subst eo39))
    have n0_ : Aside0 (Kd.R k49 49 ((w35.setCell ⟨gb278, 0, none⟩ (.int .i64 t274)).setCell ⟨gb278, 1, none⟩ (.slice Ao39 t275.length co39)) w.heap.size (fun _ => True) (.slice Ao39 t275.length co39) t275) := ⟨spec_Del.z6⟩
    have n1_ : Aside0 (((w35.setCell ⟨gb278, 0, none⟩ (.int .i64 t274)).setCell ⟨gb278, 1, none⟩ (.slice Ao39 t275.length co39)).heap[gb271]? = some (.cells #[.int .i64 a0_0, .slice A0_1 l0_1.length c0_1] 25 (0, 0))) := ⟨spec_Del.z2⟩
    have n2_ : Aside0 (((w35.setCell ⟨gb278, 0, none⟩ (.int .i64 t274)).setCell ⟨gb278, 1, none⟩ (.slice Ao39 t275.length co39)).heap[gb272]? = some (.cells #[.int .i64 0, .slice none 0 0] 25 (0, 0))) := ⟨spec_Del.z3⟩
    have n3_ : Aside0 (((w35.setCell ⟨gb278, 0, none⟩ (.int .i64 t274)).setCell ⟨gb278, 1, none⟩ (.slice Ao39 t275.length co39)).heap[gb278]? = some (.cells #[.int .i64 t274, .slice Ao39 t275.length co39] 25 (0, 0))) := ⟨spec_Del.z1⟩
    have n4_ : Aside0 (Below w.heap.size w ((w35.setCell ⟨gb278, 0, none⟩ (.int .i64 t274)).setCell ⟨gb278, 1, none⟩ (.slice Ao39 t275.length co39))) := ⟨spec_Del.z0⟩
    (try clear HO277)
    (try clear BK271)
    (try clear BK272)
    (try clear BK278)
    (try clear HB)
    generalize ((w35.setCell ⟨gb278, 0, none⟩ (.int .i64 t274)).setCell ⟨gb278, 1, none⟩ (.slice Ao39 t275.length co39)) = w40 at n0_ n1_ n2_ n3_ n4_ ⊢
    have HO277 := n0_
    have BK271 := n1_
    have BK272 := n2_
    have BK278 := n3_
    have HB := n4_
    clear n0_ n1_ n2_ n3_ n4_
    have n_ : _ ∧ _ ∧ _ ∧ _ ∧ _ := ⟨AsM (Kd.R_drew HO277.out), AsM (blk_drew BK271.out), AsM (blk_drew BK272.out), AsM (blk_drew BK278.out), AsM (below_drew1 HB.out)⟩
    clear HO277 BK271 BK272 BK278 HB
    obtain ⟨HO277, BK271, BK272, BK278, HB⟩ := n_
    refine start_ (n := 5) (S := fun w' => w'.cell? ⟨gb271, 0, none⟩ = some (.int .i64 a0_0) ∧ w'.cell? ⟨gb271, 1, none⟩ = some (.slice A0_1 l0_1.length c0_1)) (ds := []) #[false, false, false, false, false] (by kernel_rfl) rfl rfl ⟨(blk_cell BK271.out 0).trans rfl, (blk_cell BK271.out 1).trans rfl⟩ (fun hHeld => ?_)
    generalize w40.drew = w41 at HO277 BK271 BK272 BK278 HB hHeld ⊢
    refine PV (i := 1) (N := some 15) #[false, true, false, false, false] rfl rfl ?_
    refine PK (i := 0) (N := some 14) (tf 2 3) rfl rfl hHeld ?_
    refine one_ (i := 2) (N := some 16) (tf 3 2) rfl rfl (by kernel_rfl) (by decide) (fun K hK => ?_)
    refine goes_ Try.func59 (by kernel_rfl) rfl #[.string a1] (by rfl) rfl rfl AQ ?_
    with_reducible refine (spec_l19Key.calls k a1 t279 t280 _ A6.out).mono ?_
    rintro e w42 ⟨rfl, hb⟩
    refine ⟨_, rfl, ?_⟩
    have n_ : _ ∧ _ ∧ _ ∧ _ ∧ _ := ⟨AsM (Kd.R_below (RD HO277) hb), AsM (blk_below (BD BK271) hb), AsM (blk_below (BD BK272) hb), AsM (blk_below (BD BK278) hb), AsM (below_step BG hb)⟩
    clear HO277 BK271 BK272 BK278 HB
    obtain ⟨HO277, BK271, BK272, BK278, HB⟩ := n_
    (try clear hb)
    (try clear hb2)
    (try clear hk)
    (try clear hi)
    refine hK.out _ _ ⟨(blk_cell BK271.out 0).trans rfl, (blk_cell BK271.out 1).trans rfl⟩ (fun hHeld => ?_)
    clear hK K
    refine NM (some 16) ?_
    refine one_ (i := 3) (N := some 17) (tf 4 1) rfl rfl (by kernel_rfl) (by decide) (fun K hK => ?_)
    refine goes_ Try.func54 (by kernel_rfl) rfl #[.agg #[.int .i64 a0_0, .slice A0_1 l0_1.length c0_1], .agg #[.int .i64 t279, .string t280]] (by rfl) rfl rfl AQ ?_
    with_reducible refine (spec_l19At.calls k a0_0 _ _ l0_1 t279 t280 t281 _ ?side1 ?side2 A7.out).mono ?_
    (case side1 => exact SC HR0_1)
    (case side2 => exact HC0_1.out)
    rintro e w43 ⟨rfl, hb⟩
    refine ⟨_, rfl, ?_⟩
    have n_ : _ ∧ _ ∧ _ ∧ _ ∧ _ := ⟨AsM (Kd.R_below (RD HO277) hb), AsM (blk_below (BD BK271) hb), AsM (blk_below (BD BK272) hb), AsM (blk_below (BD BK278) hb), AsM (below_step BG hb)⟩
    clear HO277 BK271 BK272 BK278 HB
    obtain ⟨HO277, BK271, BK272, BK278, HB⟩ := n_
    (try clear hb)
    (try clear hb2)
    (try clear hk)
    (try clear hi)
    refine hK.out _ _ ⟨(blk_cell BK271.out 0).trans rfl, (blk_cell BK271.out 1).trans rfl⟩ (fun hHeld => ?_)
    clear hK K
    refine NM (some 17) ?_
    refine PV (i := 4) (N := some 7) (tf 5 0) rfl rfl ?_
    refine done_ (by kernel_rfl) ?_
    obtain ⟨hcz44_0, hcz44_1, hfz44_0, hfz44_1⟩ := bk2 BK278.out
    obtain ⟨hcz45_0, hcz45_1, hfz45_0, hfz45_1⟩ := bk2 BK272.out
    try go_wp2
    refine bodyPost_ret (results_ct rfl _ _ gb272 25 #[.int .i64 t274, .slice Ao39 t275.length co39] (0, 0) _ rfl (by refine PX ?_; refine blk_put (cs := #[.int .i64 t274, .slice none 0 0]) ?_ 1 _ rfl; refine PX ?_; refine blk_put (cs := #[.int .i64 0, .slice none 0 0]) ?_ 0 _ rfl; exact BD BK272) Try.underlying25 rfl (by kernel_rfl)) rfl ?_
    exact ⟨_, ER, by refine PRx ?_; exact Kd.R_mono (FR (FR (Kd.R_types HO277.out BK272.out (by decide)))) (fun _ hk => trivial), BG⟩
   ·rw [if_neg c27] at H
    have c27b0 : (a1.toList == ([] : List UInt8)) = false := beq_eq_false_iff_ne.mpr c27
    have c27b1 : (a1.toList != ([] : List UInt8)) = true := bne_iff_ne.mpr c27
    by_cases c46 : 0 ≤ t281
    ·rw [if_pos c46] at H
     have c46b0 := eq_true c46
     have c46b1 : decide (0 ≤ t281) = true := decide_eq_true c46
     clear c46
     by_cases c47 : t281 ≤ (t275.length : Int)
     ·rw [if_pos c47] at H
      have c47b0 := eq_true c47
      have c47b1 : decide (t281 ≤ (t275.length : Int)) = true := decide_eq_true c47
      clear c47
      obtain ⟨y282, hy282⟩ : ∃ y_ : List (S49), y_ = (t275.take (t281 : Int).toNat) := ⟨_, rfl⟩
      replace H : (if 0 ≤ (wrap64 (t281 + 1)) then (if (wrap64 (t281 + 1)) ≤ (t275.length : Int) then (some (t274, (t275.eraseIdx (t281 : Int).toNat), true)) else (none)) else (none)) = some (r1, r2, r3) := by first | (rw [hy282]; with_reducible exact H) | (have H2_ := (Option.bind_some _ _).symm.trans H; rw [hy282]; with_reducible exact H2_) | (have H2_ := (Option.bind_some _ _).symm.trans H; with_reducible exact H2_) | with_reducible exact H | (rw [hy282]; exact H) | exact H
      have Ny282 := Aside0.mk hy282
      clear hy282
      obtain ⟨ji48, hji48⟩ : ∃ j_ : Int, (wrap64 (t281 + 1)) = j_ := ⟨_, rfl⟩
      replace H : (if 0 ≤ (ji48) then (if (ji48) ≤ (t275.length : Int) then (some (t274, (t275.eraseIdx (t281 : Int).toNat), true)) else (none)) else (none)) = some (r1, r2, r3) := by first | (rw [hji48] at H; exact H) | (simp only [hji48] at H ⊢; exact H)
      (try rw [hji48] at A3)
      (try rw [hji48] at A5)
      (try rw [hji48] at A6)
      (try rw [hji48] at A7)
      have hji48w : (IntKind.i64.wrap (t281 + 1)) = ji48 := (i64_w _).trans hji48
      by_cases c49 : 0 ≤ (ji48)
      ·rw [if_pos c49] at H
       have c49b0 := eq_true c49
       have c49b1 : decide (0 ≤ (ji48)) = true := decide_eq_true c49
       clear c49
       by_cases c50 : (ji48) ≤ (t275.length : Int)
       ·rw [if_pos c50] at H
        have c50b0 := eq_true c50
        have c50b1 : decide ((ji48) ≤ (t275.length : Int)) = true := decide_eq_true c50
        clear c50
        obtain ⟨y286, hy286⟩ : ∃ y_ : List (S49), y_ = (t275.drop ((ji48) : Int).toNat) := ⟨_, rfl⟩
        replace H : (some (t274, (t275.eraseIdx (t281 : Int).toNat), true)) = some (r1, r2, r3) := by first | (rw [hy286]; with_reducible exact H) | (have H2_ := (Option.bind_some _ _).symm.trans H; rw [hy286]; with_reducible exact H2_) | (have H2_ := (Option.bind_some _ _).symm.trans H; with_reducible exact H2_) | with_reducible exact H | (rw [hy286]; exact H) | exact H
        have Ny286 := Aside0.mk hy286
        clear hy286
        obtain ⟨y290, hy290⟩ : ∃ y_ : List (S49), y_ = (t275.eraseIdx (t281 : Int).toNat) := ⟨_, rfl⟩
        replace H : (some (t274, y290, true)) = some (r1, r2, r3) := by first | (rw [hy290]; with_reducible exact H) | (have H2_ := (Option.bind_some _ _).symm.trans H; rw [hy290]; with_reducible exact H2_) | (have H2_ := (Option.bind_some _ _).symm.trans H; with_reducible exact H2_) | with_reducible exact H | (rw [hy290]; exact H) | exact H
        have Ny290 := Aside0.mk hy290
        clear hy290
        simp only [Option.some.injEq, Prod.mk.injEq] at H
        obtain ⟨rfl, rfl, rfl⟩ := H
        go_enter Try.func62, Try.ntmps62
        try go_wp2_with (first | ((with_reducible refine gate_dst (N := 2) rfl ?_); refine box_event ?hg (N := 2) ?hd (cs := #[.int .i64 a0_0, .slice A0_1 l0_1.length c0_1]) (t := 25) ?hr ?_; (case hd => rfl); (case hg => rfl); (case hr => first | (go_simp; done) | (go_simp; rfl)); intro gb271 hg w51 hbox hb; have n_ : _ ∧ _ ∧ _ ∧ _ := ⟨AsM (below_step BL hb), AsM (hbox), AsM ((GL : w.heap.size ≤ gb271)), AsM ((GL : w.heap.size ≤ gb271))⟩; clear HB; obtain ⟨HB, BK271, GW271, GE271⟩ := n_; clear hb hbox hg) | ((with_reducible refine gate_dst (N := 4) rfl ?_); refine box_event ?hg (N := 4) ?hd (cs := #[.int .i64 0, .slice none 0 0]) (t := 25) ?hr ?_; (case hd => rfl); (case hg => rfl); (case hr => first | (go_simp; done) | (go_simp; rfl)); intro gb272 hg w52 hbox hb; have n_ : _ ∧ _ ∧ _ ∧ _ ∧ _ ∧ _ ∧ _ := ⟨AsM (blk_below (BD BK271) hb), AsM (below_step BG hb), AsM (hbox), AsM ((GM : w.heap.size ≤ gb272)), AsM ((GM : w.heap.size ≤ gb272)), AsM ((spec_Del.z4 : gb271 ≠ gb272)), AsM ((spec_Del.z5 : gb272 ≠ gb271))⟩; clear BK271 HB; obtain ⟨BK271, HB, BK272, GW272, GE272, NB271_272, NB272_271⟩ := n_; clear hb hbox hg; have hnb53 := NB271_272.out; have hnc53 := NB272_271.out; obtain ⟨hcz54_0, hcz54_1, hfz54_0, hfz54_1⟩ := bk2 BK271.out) | ((with_reducible refine gate_callee (f := 40) rfl ?_); refine goesL_ (some 9) rfl rfl Try.func40 (by kernel_rfl) rfl #[.agg #[.int .i64 a0_0, .slice A0_1 l0_1.length c0_1]] rfl AQ ?_; (with_reducible refine (spec_TableOk.calls k a0_0 _ _ l0_1 true _ ?side1 ?side2 A3.out).mono ?_); (case side1 => exact SC HR0_1); (case side2 => exact HC0_1.out); rintro e w55 ⟨rfl, hb⟩; refine ⟨_, rfl, ?_⟩; have n_ : _ ∧ _ ∧ _ := ⟨AsM (blk_below (BD BK271) hb), AsM (blk_below (BD BK272) hb), AsM (below_step BG hb)⟩; clear BK271 BK272 HB; obtain ⟨BK271, BK272, HB⟩ := n_; (try clear hb); (try clear hb2); (try clear hk); (try clear hi); obtain ⟨hcz56_0, hcz56_1, hfz56_0, hfz56_1⟩ := bk2 BK271.out) | ((with_reducible refine gate_callee (f := 76) rfl ?_); refine goesL_ (some 13) rfl rfl Try.func76 (by kernel_rfl) rfl #[.agg #[.int .i64 a0_0, .slice A0_1 l0_1.length c0_1]] rfl AQ ?_; (with_reducible refine (spec_l19Copy.calls a0_0 _ _ l0_1 t274 t275 _ ?side1 ?side2 A5.out).mono ?_); (case side1 => exact SC HR0_1); (case side2 => exact HC0_1.out); rintro e w57 ⟨v276, rfl, ho0, hb⟩; refine ⟨_, rfl, ?_⟩; have n_ : _ ∧ _ ∧ _ ∧ _ := ⟨AsM (Kd.R_lower ho0 (below_size BG)), AsM (blk_below (BD BK271) hb), AsM (blk_below (BD BK272) hb), AsM (below_step BG hb)⟩; clear BK271 BK272 HB; obtain ⟨HO277, BK271, BK272, HB⟩ := n_; (try clear hb); (try clear hb2); (try clear hk); (try clear hi); (try clear ho0)) | ((with_reducible refine gate_dst (N := 6) rfl ?_); refine box_event ?hg (N := 6) ?hd (cs := #[.int .i64 0, .slice none 0 0]) (t := 25) ?hr ?_; (case hd => rfl); (case hg => rfl); (case hr => first | (go_simp; done) | (go_simp; rfl)); intro gb278 hg w58 hbox hb; have n_ : _ ∧ _ ∧ _ ∧ _ ∧ _ ∧ _ ∧ _ ∧ _ ∧ _ ∧ _ ∧ _ := ⟨AsM (Kd.R_below (RD HO277) hb), AsM (blk_below (BD BK271) hb), AsM (blk_below (BD BK272) hb), AsM (below_step BG hb), AsM (hbox), AsM ((GM : w.heap.size ≤ gb278)), AsM ((GM : w.heap.size ≤ gb278)), AsM ((spec_Del.z4 : gb271 ≠ gb278)), AsM ((spec_Del.z5 : gb278 ≠ gb271)), AsM ((by rw [hg]; exact Nat.ne_of_lt (blk_lt (BD BK272)) : gb272 ≠ gb278)), AsM ((by rw [hg]; exact Nat.ne_of_gt (blk_lt (BD BK272)) : gb278 ≠ gb272))⟩; clear HO277 BK271 BK272 HB; obtain ⟨HO277, BK271, BK272, HB, BK278, GW278, GE278, NB271_278, NB278_271, NB272_278, NB278_272⟩ := n_; clear hb hbox hg; have hnb59 := NB278_271.out; have hnc59 := NB271_278.out; have hnb60 := NB278_272.out; have hnc60 := NB272_278.out; obtain ⟨hcz61_0, hcz61_1, hfz61_0, hfz61_1⟩ := bk2 BK278.out; obtain ⟨Ao62, co62, eo62⟩ := Kd.R_slice HO277.out; subst eo62))
        have n0_ : Aside0 (Kd.R k49 49 ((w58.setCell ⟨gb278, 0, none⟩ (.int .i64 t274)).setCell ⟨gb278, 1, none⟩ (.slice Ao62 t275.length co62)) w.heap.size (fun _ => True) (.slice Ao62 t275.length co62) t275) := ⟨spec_Del.z6⟩
        have n1_ : Aside0 (((w58.setCell ⟨gb278, 0, none⟩ (.int .i64 t274)).setCell ⟨gb278, 1, none⟩ (.slice Ao62 t275.length co62)).heap[gb271]? = some (.cells #[.int .i64 a0_0, .slice A0_1 l0_1.length c0_1] 25 (0, 0))) := ⟨spec_Del.z2⟩
        have n2_ : Aside0 (((w58.setCell ⟨gb278, 0, none⟩ (.int .i64 t274)).setCell ⟨gb278, 1, none⟩ (.slice Ao62 t275.length co62)).heap[gb272]? = some (.cells #[.int .i64 0, .slice none 0 0] 25 (0, 0))) := ⟨spec_Del.z3⟩
        have n3_ : Aside0 (((w58.setCell ⟨gb278, 0, none⟩ (.int .i64 t274)).setCell ⟨gb278, 1, none⟩ (.slice Ao62 t275.length co62)).heap[gb278]? = some (.cells #[.int .i64 t274, .slice Ao62 t275.length co62] 25 (0, 0))) := ⟨spec_Del.z1⟩
        have n4_ : Aside0 (Below w.heap.size w ((w58.setCell ⟨gb278, 0, none⟩ (.int .i64 t274)).setCell ⟨gb278, 1, none⟩ (.slice Ao62 t275.length co62))) := ⟨spec_Del.z0⟩
        (try clear HO277)
        (try clear BK271)
        (try clear BK272)
        (try clear BK278)
        (try clear HB)
        generalize ((w58.setCell ⟨gb278, 0, none⟩ (.int .i64 t274)).setCell ⟨gb278, 1, none⟩ (.slice Ao62 t275.length co62)) = w63 at n0_ n1_ n2_ n3_ n4_ ⊢
        have HO277 := n0_
        have BK271 := n1_
        have BK272 := n2_
        have BK278 := n3_
        have HB := n4_
        clear n0_ n1_ n2_ n3_ n4_
        have n_ : _ ∧ _ ∧ _ ∧ _ ∧ _ := ⟨AsM (Kd.R_drew HO277.out), AsM (blk_drew BK271.out), AsM (blk_drew BK272.out), AsM (blk_drew BK278.out), AsM (below_drew1 HB.out)⟩
        clear HO277 BK271 BK272 BK278 HB
        obtain ⟨HO277, BK271, BK272, BK278, HB⟩ := n_
        refine start_ (n := 5) (S := fun w' => w'.cell? ⟨gb271, 0, none⟩ = some (.int .i64 a0_0) ∧ w'.cell? ⟨gb271, 1, none⟩ = some (.slice A0_1 l0_1.length c0_1)) (ds := []) #[false, false, false, false, false] (by kernel_rfl) rfl rfl ⟨(blk_cell BK271.out 0).trans rfl, (blk_cell BK271.out 1).trans rfl⟩ (fun hHeld => ?_)
        generalize w63.drew = w64 at HO277 BK271 BK272 BK278 HB hHeld ⊢
        refine PV (i := 1) (N := some 15) #[false, true, false, false, false] rfl rfl ?_
        refine PK (i := 0) (N := some 14) (tf 2 3) rfl rfl hHeld ?_
        refine one_ (i := 2) (N := some 16) (tf 3 2) rfl rfl (by kernel_rfl) (by decide) (fun K hK => ?_)
        refine goes_ Try.func59 (by kernel_rfl) rfl #[.string a1] (by rfl) rfl rfl AQ ?_
        with_reducible refine (spec_l19Key.calls k a1 t279 t280 _ A6.out).mono ?_
        rintro e w65 ⟨rfl, hb⟩
        refine ⟨_, rfl, ?_⟩
        have n_ : _ ∧ _ ∧ _ ∧ _ ∧ _ := ⟨AsM (Kd.R_below (RD HO277) hb), AsM (blk_below (BD BK271) hb), AsM (blk_below (BD BK272) hb), AsM (blk_below (BD BK278) hb), AsM (below_step BG hb)⟩
        clear HO277 BK271 BK272 BK278 HB
        obtain ⟨HO277, BK271, BK272, BK278, HB⟩ := n_
        (try clear hb)
        (try clear hb2)
        (try clear hk)
        (try clear hi)
        refine hK.out _ _ ⟨(blk_cell BK271.out 0).trans rfl, (blk_cell BK271.out 1).trans rfl⟩ (fun hHeld => ?_)
        clear hK K
        refine NM (some 16) ?_
        refine one_ (i := 3) (N := some 17) (tf 4 1) rfl rfl (by kernel_rfl) (by decide) (fun K hK => ?_)
        refine goes_ Try.func54 (by kernel_rfl) rfl #[.agg #[.int .i64 a0_0, .slice A0_1 l0_1.length c0_1], .agg #[.int .i64 t279, .string t280]] (by rfl) rfl rfl AQ ?_
        with_reducible refine (spec_l19At.calls k a0_0 _ _ l0_1 t279 t280 t281 _ ?side1 ?side2 A7.out).mono ?_
        (case side1 => exact SC HR0_1)
        (case side2 => exact HC0_1.out)
        rintro e w66 ⟨rfl, hb⟩
        refine ⟨_, rfl, ?_⟩
        have n_ : _ ∧ _ ∧ _ ∧ _ ∧ _ := ⟨AsM (Kd.R_below (RD HO277) hb), AsM (blk_below (BD BK271) hb), AsM (blk_below (BD BK272) hb), AsM (blk_below (BD BK278) hb), AsM (below_step BG hb)⟩
        clear HO277 BK271 BK272 BK278 HB
        obtain ⟨HO277, BK271, BK272, BK278, HB⟩ := n_
        (try clear hb)
        (try clear hb2)
        (try clear hk)
        (try clear hi)
        refine hK.out _ _ ⟨(blk_cell BK271.out 0).trans rfl, (blk_cell BK271.out 1).trans rfl⟩ (fun hHeld => ?_)
        clear hK K
        refine NM (some 17) ?_
        refine PV (i := 4) (N := some 7) (tf 5 0) rfl rfl ?_
        refine done_ (by kernel_rfl) ?_
        try go_wp2
        have n_ : _ ∧ _ ∧ _ ∧ _ ∧ _ := ⟨AsM (Kd.R_drew HO277.out), AsM (blk_drew BK271.out), AsM (blk_drew BK272.out), AsM (blk_drew BK278.out), AsM (below_drew1 HB.out)⟩
        clear HO277 BK271 BK272 BK278 HB
        obtain ⟨HO277, BK271, BK272, BK278, HB⟩ := n_
        have q68 : (t281 : Int) ≤ ((t275.length : Int) : Int) := of_decide_eq_true AS
        obtain ⟨i068, hi068, _, hsz68, _⟩ := info_parts info49
        have hroom68 : t275.length ≤ co62 := (Kd.R_reads' HO277.out).2.1
        have hC68 : Kd.C k49 _ Ao62 t275.length t275 := (Kd.R_reads' HO277.out).2.2
        have hcut68 := cut_to (P := Try.prog) 23 49 .i64 Try.underlying23 hi068 Ao62 t275.length co62 t281 (of_decide_eq_true AS) q68 hroom68
        have hr68 := Kd.C_take (m := (t281 : Int).toNat) hC68 (by omega)
        have hy68 : y282.length = (t281 : Int).toNat := (by rw [Ny282.out, List.length_take]; omega)
        rw [← Ny282.out] at hr68
        rw [← hy68] at hcut68
        have HR285 := Aside0.mk hr68
        have HC285 := Aside0.mk (show y282.length ≤ co62 from by omega)
        clear hr68 hC68 hroom68 hi068 hsz68
        have KY68 := Aside0.mk hy68
        clear hy68
        have KL68 := Aside0.mk (show (t281 : Int).toNat ≤ t275.length from by omega)
        replace q68 := eq_true q68
        have q69 : ((ji48) : Int) ≤ ((t275.length : Int) : Int) := of_decide_eq_true AS
        obtain ⟨i069, hi069, _, hsz69, _⟩ := info_parts info49
        have hroom69 : t275.length ≤ co62 := (Kd.R_reads' HO277.out).2.1
        have hC69 : Kd.C k49 _ Ao62 t275.length t275 := (Kd.R_reads' HO277.out).2.2
        have q069 : (0 : Int) ≤ ((ji48) : Int) := of_decide_eq_true AS
        have hcut69 := cut_from (P := Try.prog) 23 49 .i64 Try.underlying23 hi069 2 hsz69 Ao62 t275.length co62 (ji48) q069 q69
        have hr69 := Kd.C_drop (m := ((ji48) : Int).toNat) (c := co62) hC69 (by omega) hroom69
        obtain ⟨A69, hA69⟩ : ∃ A1, A1 = (if co62 = ((ji48) : Int).toNat then Ao62 else (Ao62 : Option Addr).map (·.add (((ji48) : Int).toNat * 2))) := ⟨_, rfl⟩
        obtain ⟨c69, hc69⟩ : ∃ c1, c1 = co62 - ((ji48) : Int).toNat := ⟨_, rfl⟩
        have hy69 : y286.length = t275.length - ((ji48) : Int).toNat := (by rw [Ny286.out, List.length_drop] <;> omega)
        rw [show (t275).drop ((ji48) : Int).toNat = y286 from Ny286.out.symm] at hr69
        replace hr69 : Kd.C k49 _ A69 y286.length y286 := (by rw [hA69]; exact hr69)
        rw [← hy69, ← hA69, ← hc69] at hcut69
        have HR289 := Aside0.mk hr69
        have HC289 := Aside0.mk (show y286.length ≤ c69 from by rw [hy69, hc69]; exact Nat.sub_le_sub_right hroom69 _)
        clear hr69 hC69 hroom69 hi069 hsz69 hc69
        have KY69 := Aside0.mk hy69
        have KA69 := Aside0.mk hA69
        clear hy69 hA69
        have KL69 := Aside0.mk (show ((ji48) : Int).toNat ≤ t275.length from by omega)
        replace q69 := eq_true q69
        obtain ⟨go71, co71, eo71, gb71, gl71, cl71, HG71⟩ := Kd.R_form HO277.out (by have hj_ : 0 ≤ (t281 : Int) := of_decide_eq_true AS; have hl_ : (ji48 : Int) ≤ (t275.length : Int) := of_decide_eq_true AS; have hh_ : (t281 : Int) ≤ (t275.length : Int) := of_decide_eq_true AS; rw [← hji48] at hl_; unfold wrap64 at hl_; omega)
        (first | cases eo71 | (injection eo71 with ea_ en_ ec_; (first | subst ea_ | (injection ea_ with ea_; subst ea_)); subst ec_; clear en_))
        have GB71 := Aside0.mk gb71
        have GG71 := Aside0.mk HG71
        clear gb71 gl71 HG71
        refine start_ (n := 12) (S := fun w' => w'.cell? ⟨gb278, 0, none⟩ = some (.int .i64 t274) ∧ w'.cell? ⟨gb278, 1, none⟩ = some (.slice (some ⟨go71, 0, none⟩) t275.length co62)) (ds := [11]) #[false, false, false, false, false, false, false, false, false, false, false, false] (by kernel_rfl) rfl rfl ⟨(blk_cell BK278.out 0).trans rfl, (blk_cell BK278.out 1).trans rfl⟩ (fun hHeld => ?_); refine with_tabW spec_Del.tab7 spec_Del.bits7 (fun HT_ HW_ => ?_)
        generalize w66.drew = w67 at HO277 BK271 BK272 BK278 HB GG71 HR285 HR289 hHeld ⊢
        refine PU (i := 0) (N := some 25) (tf 1 11) rfl rfl HT_ ?_
        refine PU (i := 2) (N := some 27) #[true, false, true, false, false, false, false, false, false, false, false, false] rfl rfl HT_ ?_
        refine PU (i := 4) (N := some 29) #[true, false, true, false, true, false, false, false, false, false, false, false] rfl rfl HT_ ?_
        refine PU (i := 6) (N := some 31) #[true, false, true, false, true, false, true, false, false, false, false, false] rfl rfl HT_ ?_
        refine PU (i := 7) (N := some 32) #[true, false, true, false, true, false, true, true, false, false, false, false] rfl rfl HT_ ?_
        refine PT (i := 1) (N := some 26) #[true, true, true, false, true, false, true, true, false, false, false, false] rfl rfl HT_ HW_ hHeld ?_
        refine PU (i := 3) (N := some 28) #[true, true, true, true, true, false, true, true, false, false, false, false] rfl rfl HT_ ?_
        refine PT (i := 5) (N := some 30) (tf 8 4) rfl rfl HT_ HW_ hHeld ?_
        refine PU (i := 8) (N := some 33) (tf 9 3) rfl rfl HT_ ?_
        refine one_ (i := 9) (N := some 34) (tf 10 2) rfl rfl (one_of HT_.out (by kernel_rfl)) (by decide) (fun K hK => ?_)
        have hj_ : 0 ≤ (t281 : Int) := of_decide_eq_true AS
        have hl_ : (ji48 : Int) ≤ (t275.length : Int) := of_decide_eq_true AS
        have hh_ : (t281 : Int) ≤ (t275.length : Int) := of_decide_eq_true AS
        have hb_ := (Kd.R_reads' HO277.out).2.2.2.1
        have h0_ : (0 : Int) ≤ (ji48 : Int) := of_decide_eq_true AS
        have hy1_ := KY68.out
        have hk_ : (ji48 : Int).toNat = y282.length + 1 := (by have hw_ : (ji48 : Int) = t281 + 1 := (by have h00_ := h0_; rw [← hji48] at h00_ ⊢; unfold wrap64 at h00_ ⊢; omega); rw [hw_]; omega)
        refine Kd.R_delete_step k49 (w0 := w) w.heap.size (by rfl) (.tmp 28) (.tmp 33) 23 49 rfl Try.underlying23 (by kernel_rfl) (g := go71) (n := t275.length) (c := co62) (k := y282.length) rfl rfl ?hA ?hm (RD HO277) ?hk BG (below_size BG) ?_
        (case hA => have ha_ := KA69.out; rw [hk_] at ha_; exact ha_)
        (case hm => have ha_ := KY69.out; omega)
        (case hk => omega)
        intro w70 ho hb hg
        clear hj_ hl_ hh_ hb_ hk_ h0_
        rw [hy1_, ← Ny290.out] at ho
        clear hy1_
        have hn_ : t275.length - 1 = y290.length := (by have := (Kd.R_reads' ho).1; omega)
        rw [hn_] at ho ⊢
        clear hn_
        have n_ : _ ∧ _ ∧ _ ∧ _ ∧ _ := ⟨AsM (blk_grown (g := gb271) (o := .cells #[.int .i64 a0_0, .slice A0_1 l0_1.length c0_1] 25 (0, 0)) (BD BK271) hg (Kd.R_ne HO277.out BK271.out (by decide))), AsM (blk_grown (g := gb272) (o := .cells #[.int .i64 0, .slice none 0 0] 25 (0, 0)) (BD BK272) hg (Kd.R_ne HO277.out BK272.out (by decide))), AsM (ho), AsM (blk_grown (g := gb278) (o := .cells #[.int .i64 t274, .slice (some ⟨go71, 0, none⟩) t275.length co62] 25 (0, 0)) (BD BK278) hg (Kd.R_ne HO277.out BK278.out (by decide))), AsM (hb)⟩
        clear BK271 BK272 HO277 BK278 HB
        obtain ⟨BK271, BK272, HO277, BK278, HB⟩ := n_
        clear ho hb hg
        refine hK.out _ _ ⟨(blk_cell BK278.out 0).trans rfl, (blk_cell BK278.out 1).trans rfl⟩ (fun hHeld => ?_)
        clear hK K
        refine NM (some 34) ?_
        refine PU (i := 10) (N := some 35) (tf 11 1) rfl rfl HT_ ?_
        refine last_ (i := 11) (N := none) #[true, true, true, true, true, true, true, true, true, true, true, true] rfl rfl (one_of HT_.out (by kernel_rfl)) (by decide) (fun K hK => ?_)
        have hs72 : w70.cell? ⟨gb278, 1, none⟩ = some (.slice (some ⟨go71, 0, none⟩) t275.length co62) := (blk_cell BK278.out 1).trans rfl
        have hfs72 := blk_frozen BK278.out 1
        have hns72_0 := NB271_278.out
        have hns72_1 := NB272_278.out
        have hms72_0 := NB278_271.out
        have hms72_1 := NB278_272.out
        refine skip_ (w1 := ?_) (by rfl) rfl ?_ ?_
        rotate_left
        ·go_simp
         rfl
        refine hK.out _ _ ?_
        clear hK K
        refine done_ (done_of HT_.out (by kernel_rfl)) ?_
        obtain ⟨hcz73_0, hcz73_1, hfz73_0, hfz73_1⟩ := bk2 BK278.out
        obtain ⟨hcz74_0, hcz74_1, hfz74_0, hfz74_1⟩ := bk2 BK272.out
        try go_wp2
        refine bodyPost_ret (results_ct rfl _ _ gb272 25 #[.int .i64 t274, .slice (some ⟨go71, 0, none⟩) y290.length co62] (0, 0) _ rfl (by refine PX ?_; refine blk_put (cs := #[.int .i64 t274, .slice none 0 0]) ?_ 1 _ rfl; refine PX ?_; refine blk_put (cs := #[.int .i64 0, .slice none 0 0]) ?_ 0 _ rfl; refine PX ?_; refine blk_far ?_ NB272_278.out _; exact BD BK272) Try.underlying25 rfl (by kernel_rfl)) rfl ?_
        exact ⟨_, by first | rfl | (simp [errW_none, errW_some] <;> rfl) | (simp only [← hji48]; first | rfl | (simp [errW_none, errW_some] <;> rfl)) | (simp [*, errW_none, errW_some] <;> rfl), by refine PRx ?_; exact Kd.R_mono (FR (FR (Kd.R_far (p := ⟨gb278, 1, none⟩) (Kd.R_types (Kd.R_types HO277.out BK278.out (by decide)) BK272.out (by decide)) (fun _ hk => hk.1.2) (.slice (some ⟨go71, 0, none⟩) y290.length co62)))) (fun _ hk => trivial), BG⟩
       ·rw [if_neg c50] at H
        exact absurd H (by simp)
      ·rw [if_neg c49] at H
       exact absurd H (by simp)
     ·rw [if_neg c47] at H
      exact absurd H (by simp)
    ·rw [if_neg c46] at H
     exact absurd H (by simp)
 ·replace c4 := Bool.eq_false_iff.mpr c4
  subst c4
  replace H := IN H
  simp only [Option.some.injEq, Prod.mk.injEq] at H
  obtain ⟨rfl, rfl, rfl⟩ := H
  go_enter Try.func62, Try.ntmps62
  go_wp2_with (first | ((with_reducible refine gate_dst (N := 2) rfl ?_); refine box_event ?hg (N := 2) ?hd (cs := #[.int .i64 a0_0, .slice A0_1 l0_1.length c0_1]) (t := 25) ?hr ?_; (case hd => rfl); (case hg => rfl); (case hr => first | (go_simp; done) | (go_simp; rfl)); intro gb271 hg w75 hbox hb; have n_ : _ ∧ _ ∧ _ ∧ _ := ⟨AsM (below_step BL hb), AsM (hbox), AsM ((GL : w.heap.size ≤ gb271)), AsM ((GL : w.heap.size ≤ gb271))⟩; clear HB; obtain ⟨HB, BK271, GW271, GE271⟩ := n_; clear hb hbox hg) | ((with_reducible refine gate_dst (N := 4) rfl ?_); refine box_event ?hg (N := 4) ?hd (cs := #[.int .i64 0, .slice none 0 0]) (t := 25) ?hr ?_; (case hd => rfl); (case hg => rfl); (case hr => first | (go_simp; done) | (go_simp; rfl)); intro gb272 hg w76 hbox hb; have n_ : _ ∧ _ ∧ _ ∧ _ ∧ _ ∧ _ ∧ _ := ⟨AsM (blk_below (BD BK271) hb), AsM (below_step BG hb), AsM (hbox), AsM ((GM : w.heap.size ≤ gb272)), AsM ((GM : w.heap.size ≤ gb272)), AsM ((spec_Del.z4 : gb271 ≠ gb272)), AsM ((spec_Del.z5 : gb272 ≠ gb271))⟩; clear BK271 HB; obtain ⟨BK271, HB, BK272, GW272, GE272, NB271_272, NB272_271⟩ := n_; clear hb hbox hg; have hnb77 := NB271_272.out; have hnc77 := NB272_271.out; obtain ⟨hcz78_0, hcz78_1, hfz78_0, hfz78_1⟩ := bk2 BK271.out) | ((with_reducible refine gate_callee (f := 40) rfl ?_); refine goesL_ (some 9) rfl rfl Try.func40 (by kernel_rfl) rfl #[.agg #[.int .i64 a0_0, .slice A0_1 l0_1.length c0_1]] rfl AQ ?_; (with_reducible refine (spec_TableOk.calls k a0_0 _ _ l0_1 false _ ?side1 ?side2 A3.out).mono ?_); (case side1 => exact SC HR0_1); (case side2 => exact HC0_1.out); rintro e w79 ⟨rfl, hb⟩; refine ⟨_, rfl, ?_⟩; have n_ : _ ∧ _ ∧ _ := ⟨AsM (blk_below (BD BK271) hb), AsM (blk_below (BD BK272) hb), AsM (below_step BG hb)⟩; clear BK271 BK272 HB; obtain ⟨BK271, BK272, HB⟩ := n_; (try clear hb); (try clear hb2); (try clear hk); (try clear hi); obtain ⟨hcz80_0, hcz80_1, hfz80_0, hfz80_1⟩ := bk2 BK272.out))
  refine bodyPost_ret (results_ct rfl _ _ gb272 25 #[.int .i64 0, .slice none 0 0] (0, 0) _ rfl (by refine PX ?_; refine blk_put (cs := #[.int .i64 0, .slice none 0 0]) ?_ 1 _ rfl; refine PX ?_; refine blk_put (cs := #[.int .i64 0, .slice none 0 0]) ?_ 0 _ rfl; exact BD BK272) Try.underlying25 rfl (by kernel_rfl)) rfl ?_
  exact ⟨_, ER, by first | exact Kd.R_nil _ _ _ _ _ | exact Kd.N_nil _ _ _ _ _ | exact Kd.V_nil _ _ _ _ _ | exact Kd.Q_nil _ _ _ _ _ | exact Kd.S_nil _ _ _ _ _, BG⟩
def spec_Bucket.f (a0 : Int) (a1 : Int) : Option (Int) := (spec_l01Num.f a0).bind fun t303 => (if t303 = true then ((spec_l01In.f a1 1 4294967295).bind fun t304 => (if t304 = true then (if a1 = 0 then (none) else (some (Int.tmod a0 a1))) else (some 0))) else (some 0))
set_option maxHeartbeats 8000000 in
set_option maxRecDepth 100000 in
theorem spec_Bucket.calls (a0 : Int) (a1 : Int) (r : Int) (w : World) (h : spec_Bucket.f a0 a1 = some r) :
  Calls Try.prog 78 #[.int .i64 a0, .int .i64 a1] w fun e w' => e = .returned (.int .i64 r) ∧ Drawn0 w w' := by
 have H : ((spec_l01Num.f a0).bind fun t303 => (if t303 = true then ((spec_l01In.f a1 1 4294967295).bind fun t304 => (if t304 = true then (if a1 = 0 then (none) else (some (Int.tmod a0 a1))) else (some 0))) else (some 0))) = some r := h
 clear h
 replace H := BS H
 obtain ⟨t303, A30, H⟩ := H
 have A3 := Aside0.mk A30
 clear A30
 by_cases c4 : t303 = true
 ·subst c4
  replace H := IP H
  replace H := BS H
  obtain ⟨t304, A50, H⟩ := H
  have A5 := Aside0.mk A50
  clear A50
  by_cases c6 : t304 = true
  ·subst c6
   replace H := IP H
   by_cases c7 : a1 = 0
   ·rw [if_pos c7] at H
    exact absurd H (by simp)
   ·rw [if_neg c7] at H
    have c7b0 : (a1 == 0) = false := beq_eq_false_iff_ne.mpr c7
    have c7b1 : (a1 != 0) = true := bne_iff_ne.mpr c7
    obtain rfl := Option.some.inj H
    go_enter Try.func78, Try.ntmps78
    go_wp2_with (first | ((with_reducible refine gate_callee (f := 82) rfl ?_); refine goesL_ (some 6) rfl rfl Try.func82 (by kernel_rfl) rfl #[.int .i64 a0] rfl AQ ?_; (with_reducible refine (spec_l01Num.calls a0 true _ A3.out).mono ?_); rintro e w' ⟨rfl, ⟨nd, rfl⟩⟩; refine ⟨_, rfl, ?_⟩) | (go_at_call 73; (with_reducible refine (spec_l01In.calls a1 1 4294967295 true _ A5.out).mono ?_); rintro e w' ⟨rfl, ⟨nd, rfl⟩⟩))
    go_ret
    exact ⟨by first | rfl | (simp; done) | (simp [*]; done), DR⟩
  ·replace c6 := Bool.eq_false_iff.mpr c6
   subst c6
   replace H := IN H
   obtain rfl := Option.some.inj H
   go_enter Try.func78, Try.ntmps78
   go_wp2_with (first | ((with_reducible refine gate_callee (f := 82) rfl ?_); refine goesL_ (some 6) rfl rfl Try.func82 (by kernel_rfl) rfl #[.int .i64 a0] rfl AQ ?_; (with_reducible refine (spec_l01Num.calls a0 true _ A3.out).mono ?_); rintro e w' ⟨rfl, ⟨nd, rfl⟩⟩; refine ⟨_, rfl, ?_⟩) | (go_at_call 73; (with_reducible refine (spec_l01In.calls a1 1 4294967295 false _ A5.out).mono ?_); rintro e w' ⟨rfl, ⟨nd, rfl⟩⟩))
   go_ret
   exact ⟨by first | rfl | (simp; done) | (simp [*]; done), DR⟩
 ·replace c4 := Bool.eq_false_iff.mpr c4
  subst c4
  replace H := IN H
  obtain rfl := Option.some.inj H
  go_enter Try.func78, Try.ntmps78
  go_wp2_with (first | ((with_reducible refine gate_callee (f := 82) rfl ?_); refine goesL_ (some 6) rfl rfl Try.func82 (by kernel_rfl) rfl #[.int .i64 a0] rfl AQ ?_; (with_reducible refine (spec_l01Num.calls a0 false _ A3.out).mono ?_); rintro e w' ⟨rfl, ⟨nd, rfl⟩⟩; refine ⟨_, rfl, ?_⟩))
  go_ret
  exact ⟨by first | rfl | (simp; done) | (simp [*]; done), DR⟩
mutual
def spec_Add.j0 : Nat → ByteArray → Bool → Int → List (S49) → Option (Int × (List (S49)) × Bool)
 | 0, _, _, _, _ => none
 | k + 1, x1, x16, x306000, x306001 => if x16 = true then (some (0, ([] : List (S49)), false)) else ((spec_Hash.f k x1).bind fun t309 => ((spec_Bucket.f t309 x306000).bind fun t310 => ((spec_Open.f k x306000 x306001 t310).bind fun bt311 => ((spec_l19Key.f k x1).bind fun bt317 => ((spec_l19At.f k x306000 x306001 bt317.1 bt317.2).bind fun t319 => (if t319 ≥ 0 then (spec_Add.j1 k x1 true bt311.1 bt311.2.1) else ((spec_Keys.f k x306000 x306001).bind fun t320 => (spec_Add.j1 k x1 ((t320.length : Int) == 200) bt311.1 bt311.2.1))))))))
def spec_Add.j1 : Nat → ByteArray → Bool → Int → List (S49) → Option (Int × (List (S49)) × Bool)
 | 0, _, _, _, _ => none
 | k + 1, x1, x38, x317000, x317001 => if x38 = true then (some (x317000, x317001, false)) else ((spec_l19Key.f k x1).bind fun bt323 => ((spec_l19Put.f k x317000 x317001 bt323.1 bt323.2).bind fun bt325 => (some (bt325.1, bt325.2, true))))
end
def spec_Add.f (k : Nat) (a0_0 : Int) (l0_1 : List (S49)) (a1 : ByteArray) : Option (Int × (List (S49)) × Bool) := (spec_TableOk.f k a0_0 l0_1).bind fun t307 => (if t307 = true then ((spec_ItemOk.f k a1 (⟨#[]⟩ : ByteArray) 0).bind fun t308 => (spec_Add.j0 k a1 (!t308) a0_0 l0_1)) else (spec_Add.j0 k a1 true a0_0 l0_1))
theorem spec_Add.mono_l : ∀ k, (∀ y0 y1 y2 y3, LeO (spec_Add.j0 k y0 y1 y2 y3) (spec_Add.j0 (k + 1) y0 y1 y2 y3)) ∧ (∀ y0 y1 y2 y3, LeO (spec_Add.j1 k y0 y1 y2 y3) (spec_Add.j1 (k + 1) y0 y1 y2 y3))
 | 0 => ⟨fun _ _ _ _ r h => by simp [spec_Add.j0] at h, fun _ _ _ _ r h => by simp [spec_Add.j1] at h⟩
 | k + 1 => by
  obtain ⟨ih0, ih1⟩ := spec_Add.mono_l k
  refine ⟨?_, ?_⟩
  ·intro y0 y1 y2 y3
   unfold spec_Add.j0
   repeat' first | (with_reducible first | exact ih0 _ _ _ _ | exact ih1 _ _ _ _ | exact spec_Hash.mono _ _ | exact spec_ItemOk.mono _ _ _ _ | exact spec_Keys.mono _ _ _ | exact spec_Open.mono _ _ _ _ | exact spec_TableOk.mono _ _ _ | exact spec_l19At.mono _ _ _ _ _ | exact spec_l19Key.mono _ _ | exact spec_l19Put.mono _ _ _ _ _ | exact LeO.refl _ | exact LeO.none _ | refine LeO.ite ?_ ?_ | refine LeO.bind ?_ (fun _ => ?_)) | exact ih0 _ _ _ _ | exact ih1 _ _ _ _ | exact spec_Hash.mono _ _ | exact spec_ItemOk.mono _ _ _ _ | exact spec_Keys.mono _ _ _ | exact spec_Open.mono _ _ _ _ | exact spec_TableOk.mono _ _ _ | exact spec_l19At.mono _ _ _ _ _ | exact spec_l19Key.mono _ _ | exact spec_l19Put.mono _ _ _ _ _ | exact LeO.none _ | refine LeO.ite ?_ ?_ | refine LeO.bind ?_ (fun _ => ?_)
  ·intro y0 y1 y2 y3
   unfold spec_Add.j1
   repeat' first | (with_reducible first | exact ih0 _ _ _ _ | exact ih1 _ _ _ _ | exact spec_Hash.mono _ _ | exact spec_ItemOk.mono _ _ _ _ | exact spec_Keys.mono _ _ _ | exact spec_Open.mono _ _ _ _ | exact spec_TableOk.mono _ _ _ | exact spec_l19At.mono _ _ _ _ _ | exact spec_l19Key.mono _ _ | exact spec_l19Put.mono _ _ _ _ _ | exact LeO.refl _ | exact LeO.none _ | refine LeO.ite ?_ ?_ | refine LeO.bind ?_ (fun _ => ?_)) | exact ih0 _ _ _ _ | exact ih1 _ _ _ _ | exact spec_Hash.mono _ _ | exact spec_ItemOk.mono _ _ _ _ | exact spec_Keys.mono _ _ _ | exact spec_Open.mono _ _ _ _ | exact spec_TableOk.mono _ _ _ | exact spec_l19At.mono _ _ _ _ _ | exact spec_l19Key.mono _ _ | exact spec_l19Put.mono _ _ _ _ _ | exact LeO.none _ | refine LeO.ite ?_ ?_ | refine LeO.bind ?_ (fun _ => ?_)
theorem spec_Add.mono : ∀ a0 a1 a2 k, LeO (spec_Add.f k a0 a1 a2) (spec_Add.f (k + 1) a0 a1 a2) := by
 intro a0 a1 a2 k
 obtain ⟨ih0, ih1⟩ := spec_Add.mono_l k
 unfold spec_Add.f
 repeat' first | (with_reducible first | exact ih0 _ _ _ _ | exact ih1 _ _ _ _ | exact spec_Hash.mono _ _ | exact spec_ItemOk.mono _ _ _ _ | exact spec_Keys.mono _ _ _ | exact spec_Open.mono _ _ _ _ | exact spec_TableOk.mono _ _ _ | exact spec_l19At.mono _ _ _ _ _ | exact spec_l19Key.mono _ _ | exact spec_l19Put.mono _ _ _ _ _ | exact LeO.refl _ | exact LeO.none _ | refine LeO.ite ?_ ?_ | refine LeO.bind ?_ (fun _ => ?_)) | exact ih0 _ _ _ _ | exact ih1 _ _ _ _ | exact spec_Hash.mono _ _ | exact spec_ItemOk.mono _ _ _ _ | exact spec_Keys.mono _ _ _ | exact spec_Open.mono _ _ _ _ | exact spec_TableOk.mono _ _ _ | exact spec_l19At.mono _ _ _ _ _ | exact spec_l19Key.mono _ _ | exact spec_l19Put.mono _ _ _ _ _ | exact LeO.none _ | refine LeO.ite ?_ ?_ | refine LeO.bind ?_ (fun _ => ?_)
def spec_Add.T3 : Bool × List (List Nat × List Nat) := (true, [([], []), ([], []), ([1], [1]), ([], []), ([3], [3]), ([2, 4, 2], [2, 4]), ([0, 5, 5], [0, 5]), ([6], [6]), ([7], [7]), ([7], [7]), ([], []), ([10, 8, 6, 0, 1, 2, 3, 4, 5, 6, 7, 8, 10], [8, 10]), ([9, 11, 0, 1, 2, 3, 4, 5, 6, 7, 8, 9, 10, 11], [9])])
def spec_Add.B3 : List Nat := [0, 0, 2, 0, 8, 30, 63, 127, 255, 255, 0, 1535, 4095]
theorem spec_Add.tab3 : rtab .any (opsOf Try.f63 3) = spec_Add.T3 := by kernel_rfl
theorem spec_Add.bits3 : waitsOk spec_Add.T3.2 spec_Add.B3 = true := by kernel_rfl
def spec_Add.T4 : Bool × List (List Nat × List Nat) := (true, [([], []), ([], []), ([1], [1]), ([0, 2, 2], [0, 2]), ([3], [3]), ([4, 3], [4]), ([5], [5]), ([6, 5, 5], [5, 6]), ([7, 5], [5, 7]), ([8, 5], [5, 8]), ([5, 9], [5, 9])])
def spec_Add.B4 : List Nat := [0, 0, 2, 7, 15, 31, 63, 127, 255, 511, 1023]
theorem spec_Add.tab4 : rtab .any (opsOf Try.f63 4) = spec_Add.T4 := by kernel_rfl
theorem spec_Add.bits4 : waitsOk spec_Add.T4.2 spec_Add.B4 = true := by kernel_rfl
theorem spec_Add.z0 {P : Prop} (h : P := by repeat (first | (with_reducible first | exact HB.out | apply below_alloc | apply pw_below_drewN | apply below_drew1 | refine below_set ?_ GE305.out | refine below_set ?_ GE306.out | refine below_set ?_ GE316.out) | exact HB.out)) : P := h
theorem spec_Add.z1 {P : Prop} (h : P := by simp only [putAll, Act.put, List.setIfInBounds_toArray, List.set_cons_zero, List.set_cons_succ]) : P := h
theorem spec_Add.z2 {P : Prop} (h : P := by rw [hg]; exact Nat.ne_of_lt (blk_lt (BD BK305))) : P := h
theorem spec_Add.z3 {P : Prop} (h : P := by rw [hg]; exact Nat.ne_of_gt (blk_lt (BD BK305))) : P := h
theorem spec_Add.z4 {P : Prop} (h : P := by rw [hg]; exact Nat.ne_of_lt (blk_lt (BD BK306))) : P := h
theorem spec_Add.z5 {P : Prop} (h : P := by rw [hg]; exact Nat.ne_of_gt (blk_lt (BD BK306))) : P := h
set_option maxHeartbeats 8000000 in
set_option maxRecDepth 100000 in
theorem spec_Add.calls (k : Nat) (a0_0 : Int) (A0_1 : Option Addr) (c0_1 : Nat) (l0_1 : List (S49)) (a1 : ByteArray) (r1 : Int) (r2 : List (S49)) (r3 : Bool) (w : World) (hr0_1 : Kd.C k49 w A0_1 l0_1.length l0_1) (hc0_1 : l0_1.length ≤ c0_1) (h : spec_Add.f k a0_0 l0_1 a1 = some (r1, r2, r3)) :
  Calls Try.prog 63 #[.agg #[.int .i64 a0_0, .slice A0_1 l0_1.length c0_1], .string a1] w fun e w' => ∃ v1_ : Value, e = .returned (.tuple #[.agg #[.int .i64 r1, v1_], .bool r3]) ∧ Kd.R k49 49 w' w.heap.size (fun _ => True) v1_ r2 ∧ Below w.heap.size w w' := by
 have hu25 := Try.underlying25
 have hu55 := Try.underlying55
 have HR0_1 := Aside0.mk hr0_1
 have HC0_1 := Aside0.mk hc0_1
 clear hr0_1 hc0_1
 have HB := Aside0.mk (Below.refl w.heap.size w)
 have H : ((spec_TableOk.f k a0_0 l0_1).bind fun t307 => (if t307 = true then ((spec_ItemOk.f k a1 (⟨#[]⟩ : ByteArray) 0).bind fun t308 => (spec_Add.j0 k a1 (!t308) a0_0 l0_1)) else (spec_Add.j0 k a1 true a0_0 l0_1))) = some (r1, r2, r3) := h
 clear h
 have HC3 := Aside0.mk H
 clear H
 go_enter Try.func63, Try.ntmps63
 go_upto_region 1 with (first | ((with_reducible refine gate_dst (N := 2) rfl ?_); (try (refine gate_guard (by rfl) ?_; dsimp only)); refine box_event ?hg (N := 2) ?hd (cs := #[.int .i64 a0_0, .slice A0_1 l0_1.length c0_1]) (t := 25) ?hr ?_; (case hd => rfl); (case hg => rfl); (case hr => first | (go_simp; done) | (go_simp; rfl)); intro gb305 hg w4 hbox hb; have n_ : _ ∧ _ ∧ _ ∧ _ := ⟨AsM (below_step BL hb), AsM (hbox), AsM ((GL : w.heap.size ≤ gb305)), AsM ((GL : w.heap.size ≤ gb305))⟩; clear HB; obtain ⟨HB, BK305, GW305, GE305⟩ := n_; clear hb hbox hg) | ((with_reducible refine gate_dst (N := 4) rfl ?_); (try (refine gate_guard (by rfl) ?_; dsimp only)); refine box_event ?hg (N := 4) ?hd (cs := #[.int .i64 0, .slice none 0 0]) (t := 25) ?hr ?_; (case hd => rfl); (case hg => rfl); (case hr => first | (go_simp; done) | (go_simp; rfl)); intro gb306 hg w5 hbox hb; have n_ : _ ∧ _ ∧ _ ∧ _ ∧ _ ∧ _ ∧ _ := ⟨AsM (blk_below (BD BK305) hb), AsM (below_step BG hb), AsM (hbox), AsM ((GM : w.heap.size ≤ gb306)), AsM ((GM : w.heap.size ≤ gb306)), AsM ((spec_Add.z2 : gb305 ≠ gb306)), AsM ((spec_Add.z3 : gb306 ≠ gb305))⟩; clear BK305 HB; obtain ⟨BK305, HB, BK306, GW306, GE306, NB305_306, NB306_305⟩ := n_; clear hb hbox hg))
 (try simp only [Act.put, List.setIfInBounds_toArray, List.set_cons_zero, List.set_cons_succ])
 go_cut [16] (fun v16 wc => ∃ (kq : Nat) (x16_2 : Bool), v16 = .bool x16_2 ∧ Aside0 (spec_Add.j0 kq a1 x16_2 a0_0 l0_1 = some (r1, r2, r3)) ∧ Aside0 (kq ≤ k) ∧ Aside0 (wc.heap[gb305]? = some (.cells #[.int .i64 a0_0, (.slice A0_1 l0_1.length c0_1)] 25 (0, 0))) ∧ Aside0 (wc.heap[gb306]? = some (.cells #[.int .i64 0, (.slice none 0 0)] 25 (0, 0))) ∧ Aside0 (Below w.heap.size w wc))
 case first =>
  have H := HC3.out
  clear HC3
  replace H := BS H
  obtain ⟨t307, A60, H⟩ := H
  have A6 := Aside0.mk A60
  clear A60
  by_cases c7 : t307 = true
  ·subst c7
   replace H := IP H
   replace H := BS H
   obtain ⟨t308, A80, H⟩ := H
   have A8 := Aside0.mk A80
   clear A80
   have H' := Aside0.mk H
   clear H
   have hnb9 := NB305_306.out
   have hnc9 := NB306_305.out
   obtain ⟨hcz10_0, hcz10_1, hfz10_0, hfz10_1⟩ := bk2 BK305.out
   go_wp2_with (first | ((with_reducible refine gate_callee (f := 40) rfl ?_); refine goesL_ (some 9) rfl rfl Try.func40 (by kernel_rfl) rfl #[.agg #[.int .i64 a0_0, .slice A0_1 l0_1.length c0_1]] rfl AQ ?_; (with_reducible refine (spec_TableOk.calls k a0_0 _ _ l0_1 true _ ?side1 ?side2 A6.out).mono ?_); (case side1 => exact SC HR0_1); (case side2 => exact HC0_1.out); rintro e w11 ⟨rfl, hb⟩; refine ⟨_, rfl, ?_⟩; have n_ : _ ∧ _ ∧ _ := ⟨AsM (blk_below (BD BK305) hb), AsM (blk_below (BD BK306) hb), AsM (below_step BG hb)⟩; clear BK305 BK306 HB; obtain ⟨BK305, BK306, HB⟩ := n_; (try clear hb); (try clear hb2); (try clear hk); (try clear hi)) | (go_at_call 58; (with_reducible refine (spec_ItemOk.calls k a1 (⟨#[]⟩ : ByteArray) 0 t308 _ A8.out).mono ?_); rintro e w12 ⟨rfl, hb⟩; have n_ : _ ∧ _ ∧ _ := ⟨AsM (blk_below (BD BK305) hb), AsM (blk_below (BD BK306) hb), AsM (below_step BG hb)⟩; clear BK305 BK306 HB; obtain ⟨BK305, BK306, HB⟩ := n_; (try clear hb); (try clear hb2); (try clear hk); (try clear hi)))
   go_meet
   case rel => exact ⟨_, (!t308), RS, H', ⟨by first | omega | exact Nat.le_refl _⟩, ⟨BD BK305⟩, ⟨BD BK306⟩, ⟨by repeat (first | (with_reducible first | exact HB.out | apply below_alloc | apply pw_below_drewN | apply below_drew1 | refine below_set ?_ GE305.out | refine below_set ?_ GE306.out) | exact HB.out)⟩⟩
  ·replace c7 := Bool.eq_false_iff.mpr c7
   subst c7
   replace H := IN H
   have H' := Aside0.mk H
   clear H
   have hnb13 := NB305_306.out
   have hnc13 := NB306_305.out
   obtain ⟨hcz14_0, hcz14_1, hfz14_0, hfz14_1⟩ := bk2 BK305.out
   go_wp2_with (first | ((with_reducible refine gate_callee (f := 40) rfl ?_); refine goesL_ (some 9) rfl rfl Try.func40 (by kernel_rfl) rfl #[.agg #[.int .i64 a0_0, .slice A0_1 l0_1.length c0_1]] rfl AQ ?_; (with_reducible refine (spec_TableOk.calls k a0_0 _ _ l0_1 false _ ?side1 ?side2 A6.out).mono ?_); (case side1 => exact SC HR0_1); (case side2 => exact HC0_1.out); rintro e w15 ⟨rfl, hb⟩; refine ⟨_, rfl, ?_⟩; have n_ : _ ∧ _ ∧ _ := ⟨AsM (blk_below (BD BK305) hb), AsM (blk_below (BD BK306) hb), AsM (below_step BG hb)⟩; clear BK305 BK306 HB; obtain ⟨BK305, BK306, HB⟩ := n_; (try clear hb); (try clear hb2); (try clear hk); (try clear hi)))
   go_meet
   case rel => exact ⟨_, (true), RS, H', ⟨by first | omega | exact Nat.le_refl _⟩, ⟨BD BK305⟩, ⟨BD BK306⟩, ⟨by repeat (first | (with_reducible first | exact HB.out | apply below_alloc | apply pw_below_drewN | apply below_drew1 | refine below_set ?_ GE305.out | refine below_set ?_ GE306.out) | exact HB.out)⟩⟩
 case rest =>
  clear HC3
  try clear c1
  try clear p2
  try clear c4
  try clear c6
  try clear c7
  try clear c9
  try clear c13
  try clear hcz10_0
  try clear hcz10_1
  try clear hcz14_0
  try clear hcz14_1
  try clear hfz10_0
  try clear hfz10_1
  try clear hfz14_0
  try clear hfz14_1
  obtain ⟨kq, x16_2, rfl, HA, HJ2, BK305, BK306, HB⟩ := hcut
  cases kq with
  | zero => exact absurd HA.out (by simp [spec_Add.j0])
  | succ kj2 =>
   have H := HA.out
   clear HA
   simp only [spec_Add.j0] at H
   by_cases c16 : x16_2 = true
   ·subst c16
    replace H := IP H
    simp only [Option.some.injEq, Prod.mk.injEq] at H
    obtain ⟨rfl, rfl, rfl⟩ := H
    have hnb17 := NB306_305.out
    have hnc17 := NB305_306.out
    obtain ⟨hcz18_0, hcz18_1, hfz18_0, hfz18_1⟩ := bk2 BK306.out
    go_wp2
    refine bodyPost_ret (results_ct rfl _ _ gb306 25 #[.int .i64 0, .slice none 0 0] (0, 0) _ rfl (by refine PX ?_; refine blk_put (cs := #[.int .i64 0, .slice none 0 0]) ?_ 1 _ rfl; refine PX ?_; refine blk_put (cs := #[.int .i64 0, .slice none 0 0]) ?_ 0 _ rfl; exact BD BK306) Try.underlying25 rfl (by kernel_rfl)) rfl ?_
    exact ⟨_, ER, by first | exact Kd.R_nil _ _ _ _ _ | exact Kd.N_nil _ _ _ _ _ | exact Kd.V_nil _ _ _ _ _ | exact Kd.Q_nil _ _ _ _ _ | exact Kd.S_nil _ _ _ _ _, BG⟩
   ·replace c16 := Bool.eq_false_iff.mpr c16
    subst c16
    replace H := IN H
    replace H := BS H
    obtain ⟨t309, A190, H⟩ := H
    have A19 := Aside0.mk A190
    clear A190
    replace H := BS H
    obtain ⟨t310, A200, H⟩ := H
    have A20 := Aside0.mk A200
    clear A200
    replace H := BS H
    obtain ⟨⟨t311, t312, t315⟩, A210, H⟩ := H
    have A21 := Aside0.mk A210
    clear A210
    have HC22 := Aside0.mk H
    clear H
    try go_wp2
    have n_ : _ ∧ _ ∧ _ := ⟨AsM (blk_drew BK305.out), AsM (blk_drew BK306.out), AsM (below_drew1 HB.out)⟩
    clear BK305 BK306 HB
    obtain ⟨BK305, BK306, HB⟩ := n_
    refine start_ (n := 13) (S := fun w' => w'.cell? ⟨gb305, 0, none⟩ = some (.int .i64 a0_0) ∧ w'.cell? ⟨gb305, 1, none⟩ = some (.slice A0_1 l0_1.length c0_1)) (ds := []) #[false, false, false, false, false, false, false, false, false, false, false, false, false] (by kernel_rfl) rfl rfl ⟨(blk_cell BK305.out 0).trans rfl, (blk_cell BK305.out 1).trans rfl⟩ (fun hHeld => ?_); refine with_tabW spec_Add.tab3 spec_Add.bits3 (fun HT_ HW_ => ?_)
    generalize wc.drew = w23 at BK305 BK306 HB hHeld ⊢
    refine PU (i := 1) (N := some 20) #[false, true, false, false, false, false, false, false, false, false, false, false, false] rfl rfl HT_ ?_
    refine PU (i := 3) (N := some 22) #[false, true, false, true, false, false, false, false, false, false, false, false, false] rfl rfl HT_ ?_
    refine PT (i := 0) (N := some 19) #[true, true, false, true, false, false, false, false, false, false, false, false, false] rfl rfl HT_ HW_ hHeld ?_
    refine PT (i := 4) (N := some 23) #[true, true, false, true, true, false, false, false, false, false, false, false, false] rfl rfl HT_ HW_ hHeld ?_
    refine join_ (σ := Value × Nat) 2 #[true, true, true, true, true, true, true, true, true, true, true, false, false] (fun s_ => [(21, .int .i64 t309), (24, .int .i64 t310), (25, .tuple #[.agg #[.int .i64 t311, s_.1], .bool t315]), (6, .pointer (some ⟨s_.2, 0, none⟩)), (18, .tuple #[.agg #[.int .i64 t311, s_.1], .bool t315]), (26, .agg #[.int .i64 t311, s_.1]), (27, .bool t315)]) (fun s_ w' => (w'.cell? ⟨gb305, 0, none⟩ = some (.int .i64 a0_0) ∧ w'.cell? ⟨gb305, 1, none⟩ = some (.slice A0_1 l0_1.length c0_1)) ∧ (Kd.R k49 49 w' w.heap.size (fun _ => True) s_.1 t312) ∧ (w'.heap[gb305]? = some (.cells #[.int .i64 a0_0, .slice A0_1 l0_1.length c0_1] 25 (0, 0))) ∧ (w'.heap[gb306]? = some (.cells #[.int .i64 0, .slice none 0 0] 25 (0, 0))) ∧ (w'.heap[s_.2]? = some (.cells #[.int .i64 0, .slice none 0 0] 25 (0, 0))) ∧ (w.heap.size ≤ s_.2) ∧ (w.heap.size ≤ s_.2) ∧ (gb305 ≠ s_.2) ∧ (s_.2 ≠ gb305) ∧ (gb306 ≠ s_.2) ∧ (s_.2 ≠ gb306) ∧ (Below w.heap.size w w')) ?_ ?_
    rotate_left
    ·intro hCont
     refine two_ (i := 2) (j := 10) (Ni := some 21) (Nj := some 6) #[true, true, true, true, true, false, false, false, false, false, false, false, false] #[true, true, false, true, true, false, false, false, false, false, true, false, false] rfl rfl rfl rfl (two_of HT_.out (by kernel_rfl)) (by decide) (by decide) (fun K hK => ?_) (fun K hK => ?_)
     ·skip
      refine goes_ Try.func75 (by kernel_rfl) rfl #[.string a1] (by rfl) rfl rfl AQ ?_
      with_reducible refine (spec_Hash.calls kj2 a1 t309 _ A19.out).mono ?_
      rintro e w' ⟨rfl, ⟨nd, rfl⟩⟩
      refine ⟨_, rfl, ?_⟩
      refine hK.out _ _ ⟨(blk_cell BK305.out 0).trans rfl, (blk_cell BK305.out 1).trans rfl⟩ (fun hHeld => ?_)
      clear hK K
      refine NM (some 21) ?_
      refine two_ (i := 5) (j := 10) (Ni := some 24) (Nj := some 6) #[true, true, true, true, true, true, false, false, false, false, false, false, false] #[true, true, true, true, true, false, false, false, false, false, true, false, false] rfl rfl rfl rfl (two_of HT_.out (by kernel_rfl)) (by decide) (by decide) (fun K hK => ?_) (fun K hK => ?_)
      ·skip
       refine goes_ Try.func78 (by kernel_rfl) rfl #[.int .i64 t309, .int .i64 a0_0] (by rfl) rfl rfl AQ ?_
       with_reducible refine (spec_Bucket.calls t309 a0_0 t310 _ A20.out).mono ?_
       rintro e w' ⟨rfl, ⟨nd, rfl⟩⟩
       refine ⟨_, rfl, ?_⟩
       refine hK.out _ _ ⟨(blk_cell BK305.out 0).trans rfl, (blk_cell BK305.out 1).trans rfl⟩ (fun hHeld => ?_)
       clear hK K
       refine NM (some 24) ?_
       refine two_ (i := 6) (j := 10) (Ni := some 25) (Nj := some 6) #[true, true, true, true, true, true, true, false, false, false, false, false, false] #[true, true, true, true, true, true, false, false, false, false, true, false, false] rfl rfl rfl rfl (two_of HT_.out (by kernel_rfl)) (by decide) (by decide) (fun K hK => ?_) (fun K hK => ?_)
       ·skip
        refine goes_ Try.func61 (by kernel_rfl) rfl #[.agg #[.int .i64 a0_0, .slice A0_1 l0_1.length c0_1], .int .i64 t310] (by rfl) rfl rfl AQ ?_
        with_reducible refine (spec_Open.calls kj2 a0_0 _ _ l0_1 t310 t311 t312 t315 _ ?side1 ?side2 A21.out).mono ?_
        (case side1 => repeat (first | exact (Kd.C_below HR0_1.out BG) | (with_reducible refine Kd.C_alloc ?_ _) | (with_reducible refine Kd.C_drewN ?_ _) | (with_reducible refine Kd.C_drew ?_)))
        (case side2 => exact HC0_1.out)
        rintro e w24 ⟨v313, rfl, ho0, hb⟩
        refine ⟨_, rfl, ?_⟩
        have n_ : _ ∧ _ ∧ _ ∧ _ := ⟨AsM (Kd.R_lower ho0 (below_size BG)), AsM (blk_below (BD BK305) hb), AsM (blk_below (BD BK306) hb), AsM (below_step BG hb)⟩
        clear BK305 BK306 HB
        obtain ⟨HO314, BK305, BK306, HB⟩ := n_
        (try clear hb)
        (try clear hb2)
        (try clear hk)
        (try clear hi)
        (try clear ho0)
        refine hK.out _ _ ⟨(blk_cell BK305.out 0).trans rfl, (blk_cell BK305.out 1).trans rfl⟩ (fun hHeld => ?_)
        clear hK K
        refine NM (some 25) ?_
        refine PU (i := 7) (N := some 18) (tf 8 5) rfl rfl HT_ ?_
        refine PU (i := 8) (N := some 26) (tf 9 4) rfl rfl HT_ ?_
        refine PU (i := 9) (N := some 27) (tf 10 3) rfl rfl HT_ ?_
        refine one_ (i := 10) (N := some 6) (tf 11 2) rfl rfl (one_of HT_.out (by kernel_rfl)) (by decide) (fun K hK => ?_)
        refine box_step ?hg (N := 6) ?hd (cs := #[.int .i64 0, .slice none 0 0]) (t := 25) ?hr ?_; (case hd => rfl); (case hg => rfl); (case hr => first | (go_simp; done) | (go_simp; rfl))
        intro gb316 hg w25 hbox hb
        have n_ : _ ∧ _ ∧ _ ∧ _ ∧ _ ∧ _ ∧ _ ∧ _ ∧ _ ∧ _ ∧ _ := ⟨AsM (Kd.R_below (RD HO314) hb), AsM (blk_below (BD BK305) hb), AsM (blk_below (BD BK306) hb), AsM (below_step BG hb), AsM (hbox), AsM ((GM : w.heap.size ≤ gb316)), AsM ((GM : w.heap.size ≤ gb316)), AsM ((spec_Add.z2 : gb305 ≠ gb316)), AsM ((spec_Add.z3 : gb316 ≠ gb305)), AsM ((spec_Add.z4 : gb306 ≠ gb316)), AsM ((spec_Add.z5 : gb316 ≠ gb306))⟩
        clear HO314 BK305 BK306 HB
        obtain ⟨HO314, BK305, BK306, HB, BK316, GW316, GE316, NB305_316, NB316_305, NB306_316, NB316_306⟩ := n_
        clear hb hbox hg
        refine hK.out _ _ ⟨(blk_cell BK305.out 0).trans rfl, (blk_cell BK305.out 1).trans rfl⟩ (fun hHeld => ?_)
        clear hK K
        refine NM (some 6) ?_
        exact norm_ (spec_Add.z1) (hCont (v313, gb316) _ ⟨hHeld, (RD HO314), (BD BK305), (BD BK306), (BD BK316), GW316.out, GE316.out, NB305_316.out, NB316_305.out, NB306_316.out, NB316_306.out, BG⟩)
       ·skip
        refine box_step ?hg (N := 6) ?hd (cs := #[.int .i64 0, .slice none 0 0]) (t := 25) ?hr ?_; (case hd => rfl); (case hg => rfl); (case hr => first | (go_simp; done) | (go_simp; rfl))
        intro gb316 hg w24 hbox hb
        have n_ : _ ∧ _ ∧ _ ∧ _ ∧ _ ∧ _ ∧ _ ∧ _ ∧ _ ∧ _ := ⟨AsM (blk_below (BD BK305) hb), AsM (blk_below (BD BK306) hb), AsM (below_step BG hb), AsM (hbox), AsM ((GM : w.heap.size ≤ gb316)), AsM ((GM : w.heap.size ≤ gb316)), AsM ((spec_Add.z2 : gb305 ≠ gb316)), AsM ((spec_Add.z3 : gb316 ≠ gb305)), AsM ((spec_Add.z4 : gb306 ≠ gb316)), AsM ((spec_Add.z5 : gb316 ≠ gb306))⟩
        clear BK305 BK306 HB
        obtain ⟨BK305, BK306, HB, BK316, GW316, GE316, NB305_316, NB316_305, NB306_316, NB316_306⟩ := n_
        clear hb hbox hg
        refine hK.out _ _ ⟨(blk_cell BK305.out 0).trans rfl, (blk_cell BK305.out 1).trans rfl⟩ (fun hHeld => ?_)
        clear hK K
        refine NM (some 6) ?_
        refine one_ (i := 6) (N := some 25) #[true, true, true, true, true, true, true, false, false, false, true, false, false] rfl rfl (one_of HT_.out (by kernel_rfl)) (by decide) (fun K hK => ?_)
        refine goes_ Try.func61 (by kernel_rfl) rfl #[.agg #[.int .i64 a0_0, .slice A0_1 l0_1.length c0_1], .int .i64 t310] (by rfl) rfl rfl AQ ?_
        with_reducible refine (spec_Open.calls kj2 a0_0 _ _ l0_1 t310 t311 t312 t315 _ ?side1 ?side2 A21.out).mono ?_
        (case side1 => exact SC HR0_1)
        (case side2 => exact HC0_1.out)
        rintro e w25 ⟨v313, rfl, ho0, hb⟩
        refine ⟨_, rfl, ?_⟩
        have n_ : _ ∧ _ ∧ _ ∧ _ ∧ _ := ⟨AsM (Kd.R_lower ho0 (below_size BG)), AsM (blk_below (BD BK305) hb), AsM (blk_below (BD BK306) hb), AsM (blk_below (BD BK316) hb), AsM (below_step BG hb)⟩
        clear BK305 BK306 BK316 HB
        obtain ⟨HO314, BK305, BK306, BK316, HB⟩ := n_
        (try clear hb)
        (try clear hb2)
        (try clear hk)
        (try clear hi)
        (try clear ho0)
        refine hK.out _ _ ⟨(blk_cell BK305.out 0).trans rfl, (blk_cell BK305.out 1).trans rfl⟩ (fun hHeld => ?_)
        clear hK K
        refine NM (some 25) ?_
        refine PU (i := 7) (N := some 18) #[true, true, true, true, true, true, true, true, false, false, true, false, false] rfl rfl HT_ ?_
        refine PU (i := 8) (N := some 26) #[true, true, true, true, true, true, true, true, true, false, true, false, false] rfl rfl HT_ ?_
        refine PU (i := 9) (N := some 27) (tf 11 2) rfl rfl HT_ ?_
        exact norm_ (spec_Add.z1) (hCont (v313, gb316) _ ⟨hHeld, (RD HO314), (BD BK305), (BD BK306), (BD BK316), GW316.out, GE316.out, NB305_316.out, NB316_305.out, NB306_316.out, NB316_306.out, BG⟩)
      ·skip
       refine box_step ?hg (N := 6) ?hd (cs := #[.int .i64 0, .slice none 0 0]) (t := 25) ?hr ?_; (case hd => rfl); (case hg => rfl); (case hr => first | (go_simp; done) | (go_simp; rfl))
       intro gb316 hg w24 hbox hb
       have n_ : _ ∧ _ ∧ _ ∧ _ ∧ _ ∧ _ ∧ _ ∧ _ ∧ _ ∧ _ := ⟨AsM (blk_below (BD BK305) hb), AsM (blk_below (BD BK306) hb), AsM (below_step BG hb), AsM (hbox), AsM ((GM : w.heap.size ≤ gb316)), AsM ((GM : w.heap.size ≤ gb316)), AsM ((spec_Add.z2 : gb305 ≠ gb316)), AsM ((spec_Add.z3 : gb316 ≠ gb305)), AsM ((spec_Add.z4 : gb306 ≠ gb316)), AsM ((spec_Add.z5 : gb316 ≠ gb306))⟩
       clear BK305 BK306 HB
       obtain ⟨BK305, BK306, HB, BK316, GW316, GE316, NB305_316, NB316_305, NB306_316, NB316_306⟩ := n_
       clear hb hbox hg
       refine hK.out _ _ ⟨(blk_cell BK305.out 0).trans rfl, (blk_cell BK305.out 1).trans rfl⟩ (fun hHeld => ?_)
       clear hK K
       refine NM (some 6) ?_
       refine one_ (i := 5) (N := some 24) #[true, true, true, true, true, true, false, false, false, false, true, false, false] rfl rfl (one_of HT_.out (by kernel_rfl)) (by decide) (fun K hK => ?_)
       refine goes_ Try.func78 (by kernel_rfl) rfl #[.int .i64 t309, .int .i64 a0_0] (by rfl) rfl rfl AQ ?_
       with_reducible refine (spec_Bucket.calls t309 a0_0 t310 _ A20.out).mono ?_
       rintro e w' ⟨rfl, ⟨nd, rfl⟩⟩
       refine ⟨_, rfl, ?_⟩
       refine hK.out _ _ ⟨(blk_cell BK305.out 0).trans rfl, (blk_cell BK305.out 1).trans rfl⟩ (fun hHeld => ?_)
       clear hK K
       refine NM (some 24) ?_
       refine one_ (i := 6) (N := some 25) #[true, true, true, true, true, true, true, false, false, false, true, false, false] rfl rfl (one_of HT_.out (by kernel_rfl)) (by decide) (fun K hK => ?_)
       refine goes_ Try.func61 (by kernel_rfl) rfl #[.agg #[.int .i64 a0_0, .slice A0_1 l0_1.length c0_1], .int .i64 t310] (by rfl) rfl rfl AQ ?_
       with_reducible refine (spec_Open.calls kj2 a0_0 _ _ l0_1 t310 t311 t312 t315 _ ?side1 ?side2 A21.out).mono ?_
       (case side1 => repeat (first | exact (Kd.C_below HR0_1.out BG) | (with_reducible refine Kd.C_alloc ?_ _) | (with_reducible refine Kd.C_drewN ?_ _) | (with_reducible refine Kd.C_drew ?_)))
       (case side2 => exact HC0_1.out)
       rintro e w25 ⟨v313, rfl, ho0, hb⟩
       refine ⟨_, rfl, ?_⟩
       have n_ : _ ∧ _ ∧ _ ∧ _ ∧ _ := ⟨AsM (Kd.R_lower ho0 (below_size BG)), AsM (blk_below (BD BK305) hb), AsM (blk_below (BD BK306) hb), AsM (blk_below (BD BK316) hb), AsM (below_step BG hb)⟩
       clear BK305 BK306 BK316 HB
       obtain ⟨HO314, BK305, BK306, BK316, HB⟩ := n_
       (try clear hb)
       (try clear hb2)
       (try clear hk)
       (try clear hi)
       (try clear ho0)
       refine hK.out _ _ ⟨(blk_cell BK305.out 0).trans rfl, (blk_cell BK305.out 1).trans rfl⟩ (fun hHeld => ?_)
       clear hK K
       refine NM (some 25) ?_
       refine PU (i := 7) (N := some 18) #[true, true, true, true, true, true, true, true, false, false, true, false, false] rfl rfl HT_ ?_
       refine PU (i := 8) (N := some 26) #[true, true, true, true, true, true, true, true, true, false, true, false, false] rfl rfl HT_ ?_
       refine PU (i := 9) (N := some 27) (tf 11 2) rfl rfl HT_ ?_
       exact norm_ (spec_Add.z1) (hCont (v313, gb316) _ ⟨hHeld, (RD HO314), (BD BK305), (BD BK306), (BD BK316), GW316.out, GE316.out, NB305_316.out, NB316_305.out, NB306_316.out, NB316_306.out, BG⟩)
     ·skip
      refine box_step ?hg (N := 6) ?hd (cs := #[.int .i64 0, .slice none 0 0]) (t := 25) ?hr ?_; (case hd => rfl); (case hg => rfl); (case hr => first | (go_simp; done) | (go_simp; rfl))
      intro gb316 hg w24 hbox hb
      have n_ : _ ∧ _ ∧ _ ∧ _ ∧ _ ∧ _ ∧ _ ∧ _ ∧ _ ∧ _ := ⟨AsM (blk_below (BD BK305) hb), AsM (blk_below (BD BK306) hb), AsM (below_step BG hb), AsM (hbox), AsM ((GM : w.heap.size ≤ gb316)), AsM ((GM : w.heap.size ≤ gb316)), AsM ((spec_Add.z2 : gb305 ≠ gb316)), AsM ((spec_Add.z3 : gb316 ≠ gb305)), AsM ((spec_Add.z4 : gb306 ≠ gb316)), AsM ((spec_Add.z5 : gb316 ≠ gb306))⟩
      clear BK305 BK306 HB
      obtain ⟨BK305, BK306, HB, BK316, GW316, GE316, NB305_316, NB316_305, NB306_316, NB316_306⟩ := n_
      clear hb hbox hg
      refine hK.out _ _ ⟨(blk_cell BK305.out 0).trans rfl, (blk_cell BK305.out 1).trans rfl⟩ (fun hHeld => ?_)
      clear hK K
      refine NM (some 6) ?_
      refine one_ (i := 2) (N := some 21) #[true, true, true, true, true, false, false, false, false, false, true, false, false] rfl rfl (one_of HT_.out (by kernel_rfl)) (by decide) (fun K hK => ?_)
      refine goes_ Try.func75 (by kernel_rfl) rfl #[.string a1] (by rfl) rfl rfl AQ ?_
      with_reducible refine (spec_Hash.calls kj2 a1 t309 _ A19.out).mono ?_
      rintro e w' ⟨rfl, ⟨nd, rfl⟩⟩
      refine ⟨_, rfl, ?_⟩
      refine hK.out _ _ ⟨(blk_cell BK305.out 0).trans rfl, (blk_cell BK305.out 1).trans rfl⟩ (fun hHeld => ?_)
      clear hK K
      refine NM (some 21) ?_
      refine one_ (i := 5) (N := some 24) #[true, true, true, true, true, true, false, false, false, false, true, false, false] rfl rfl (one_of HT_.out (by kernel_rfl)) (by decide) (fun K hK => ?_)
      refine goes_ Try.func78 (by kernel_rfl) rfl #[.int .i64 t309, .int .i64 a0_0] (by rfl) rfl rfl AQ ?_
      with_reducible refine (spec_Bucket.calls t309 a0_0 t310 _ A20.out).mono ?_
      rintro e w' ⟨rfl, ⟨nd, rfl⟩⟩
      refine ⟨_, rfl, ?_⟩
      refine hK.out _ _ ⟨(blk_cell BK305.out 0).trans rfl, (blk_cell BK305.out 1).trans rfl⟩ (fun hHeld => ?_)
      clear hK K
      refine NM (some 24) ?_
      refine one_ (i := 6) (N := some 25) #[true, true, true, true, true, true, true, false, false, false, true, false, false] rfl rfl (one_of HT_.out (by kernel_rfl)) (by decide) (fun K hK => ?_)
      refine goes_ Try.func61 (by kernel_rfl) rfl #[.agg #[.int .i64 a0_0, .slice A0_1 l0_1.length c0_1], .int .i64 t310] (by rfl) rfl rfl AQ ?_
      with_reducible refine (spec_Open.calls kj2 a0_0 _ _ l0_1 t310 t311 t312 t315 _ ?side1 ?side2 A21.out).mono ?_
      (case side1 => repeat (first | exact (Kd.C_below HR0_1.out BG) | (with_reducible refine Kd.C_alloc ?_ _) | (with_reducible refine Kd.C_drewN ?_ _) | (with_reducible refine Kd.C_drew ?_)))
      (case side2 => exact HC0_1.out)
      rintro e w25 ⟨v313, rfl, ho0, hb⟩
      refine ⟨_, rfl, ?_⟩
      have n_ : _ ∧ _ ∧ _ ∧ _ ∧ _ := ⟨AsM (Kd.R_lower ho0 (below_size BG)), AsM (blk_below (BD BK305) hb), AsM (blk_below (BD BK306) hb), AsM (blk_below (BD BK316) hb), AsM (below_step BG hb)⟩
      clear BK305 BK306 BK316 HB
      obtain ⟨HO314, BK305, BK306, BK316, HB⟩ := n_
      (try clear hb)
      (try clear hb2)
      (try clear hk)
      (try clear hi)
      (try clear ho0)
      refine hK.out _ _ ⟨(blk_cell BK305.out 0).trans rfl, (blk_cell BK305.out 1).trans rfl⟩ (fun hHeld => ?_)
      clear hK K
      refine NM (some 25) ?_
      refine PU (i := 7) (N := some 18) #[true, true, true, true, true, true, true, true, false, false, true, false, false] rfl rfl HT_ ?_
      refine PU (i := 8) (N := some 26) #[true, true, true, true, true, true, true, true, true, false, true, false, false] rfl rfl HT_ ?_
      refine PU (i := 9) (N := some 27) (tf 11 2) rfl rfl HT_ ?_
      exact norm_ (spec_Add.z1) (hCont (v313, gb316) _ ⟨hHeld, (RD HO314), (BD BK305), (BD BK306), (BD BK316), GW316.out, GE316.out, NB305_316.out, NB316_305.out, NB306_316.out, NB316_306.out, BG⟩)
    rintro ⟨v313, gb316⟩ w26 ⟨hS_, h0_, h1_, h2_, h3_, h4_, h5_, h6_, h7_, h8_, h9_, h10_⟩
    have n0_ : Aside0 (Kd.R k49 49 w26 w.heap.size (fun _ => True) v313 t312) := ⟨h0_⟩
    have n1_ : Aside0 (w26.heap[gb305]? = some (.cells #[.int .i64 a0_0, .slice A0_1 l0_1.length c0_1] 25 (0, 0))) := ⟨h1_⟩
    have n2_ : Aside0 (w26.heap[gb306]? = some (.cells #[.int .i64 0, .slice none 0 0] 25 (0, 0))) := ⟨h2_⟩
    have n3_ : Aside0 (w26.heap[gb316]? = some (.cells #[.int .i64 0, .slice none 0 0] 25 (0, 0))) := ⟨h3_⟩
    have n4_ : Aside0 (w.heap.size ≤ gb316) := ⟨h4_⟩
    have n5_ : Aside0 (w.heap.size ≤ gb316) := ⟨h5_⟩
    have n6_ : Aside0 (gb305 ≠ gb316) := ⟨h6_⟩
    have n7_ : Aside0 (gb316 ≠ gb305) := ⟨h7_⟩
    have n8_ : Aside0 (gb306 ≠ gb316) := ⟨h8_⟩
    have n9_ : Aside0 (gb316 ≠ gb306) := ⟨h9_⟩
    have n10_ : Aside0 (Below w.heap.size w w26) := ⟨h10_⟩
    clear BK305
    clear BK306
    clear HB
    clear h0_ h1_ h2_ h3_ h4_ h5_ h6_ h7_ h8_ h9_ h10_
    have HO314 := n0_
    have BK305 := n1_
    have BK306 := n2_
    have BK316 := n3_
    have GW316 := n4_
    have GE316 := n5_
    have NB305_316 := n6_
    have NB316_305 := n7_
    have NB306_316 := n8_
    have NB316_306 := n9_
    have HB := n10_
    clear n0_ n1_ n2_ n3_ n4_ n5_ n6_ n7_ n8_ n9_ n10_
    have hHeld : w26.cell? ⟨gb305, 0, none⟩ = some (.int .i64 a0_0) ∧ w26.cell? ⟨gb305, 1, none⟩ = some (.slice A0_1 l0_1.length c0_1) := hS_
    obtain ⟨Ao28, co28, eo28⟩ := Kd.R_slice HO314.out
    (first | subst eo28 | (injection eo28 with f1_ f2_ f3_; have f4_ := f1_.symm; have f5_ := f3_.symm; clear f1_ f2_ f3_; subst f4_; subst f5_))
    refine norm_ (a' := ?_) ?_ ?_
    rotate_left
    ·simp only [putAll, Act.put, List.setIfInBounds_toArray, List.set_cons_zero, List.set_cons_succ]
     rfl
    refine one_ (i := 11) (N := none) (tf 12 1) rfl rfl (one_of HT_.out (by kernel_rfl)) (by decide) (fun K hK => ?_)
    have hs27 : w26.cell? ⟨gb316, 0, none⟩ = some (.int .i64 0) := (blk_cell BK316.out 0).trans rfl
    have hfs27 := blk_frozen BK316.out 0
    have hns27_0 := NB305_316.out
    have hns27_1 := NB306_316.out
    have hms27_0 := NB316_305.out
    have hms27_1 := NB316_306.out
    have hs29 : w26.cell? ⟨gb316, 1, none⟩ = some (.slice none 0 0) := (blk_cell BK316.out 1).trans rfl
    have hfs29 := blk_frozen BK316.out 1
    have hns29_0 := NB305_316.out
    have hns29_1 := NB306_316.out
    have hms29_0 := NB316_305.out
    have hms29_1 := NB316_306.out
    refine skip_ (w1 := ?_) (by rfl) rfl ?_ ?_
    rotate_left
    ·go_simp
     rfl
    refine hK.out _ _ ⟨((cell_far (p := ⟨gb316, _, none⟩) NB305_316.out _).trans (((cell_far (p := ⟨gb316, _, none⟩) NB305_316.out _).trans (hHeld.1)))), ((cell_far (p := ⟨gb316, _, none⟩) NB305_316.out _).trans (((cell_far (p := ⟨gb316, _, none⟩) NB305_316.out _).trans (hHeld.2))))⟩ (fun hHeld => ?_)
    clear hK K
    refine PU (i := 12) (N := some 7) (tf 13 0) rfl rfl HT_ ?_
    refine done_ (done_of HT_.out (by kernel_rfl)) ?_
    go_upto_region 4 with (fail)
    go_cut [38] (fun v38 wc => ∃ (kq : Nat) (x38_21 : Bool), v38 = .bool x38_21 ∧ Aside0 (spec_Add.j1 kq a1 x38_21 t311 t312 = some (r1, r2, r3)) ∧ Aside0 (kq ≤ kj2) ∧ Aside0 (Kd.R k49 49 wc w.heap.size (fun _ => True) (.slice Ao28 t312.length co28) t312) ∧ Aside0 (wc.heap[gb305]? = some (.cells #[.int .i64 a0_0, (.slice A0_1 l0_1.length c0_1)] 25 (0, 0))) ∧ Aside0 (wc.heap[gb306]? = some (.cells #[.int .i64 0, (.slice none 0 0)] 25 (0, 0))) ∧ Aside0 (wc.heap[gb316]? = some (.cells #[.int .i64 t311, (.slice Ao28 t312.length co28)] 25 (0, 0))) ∧ Aside0 (Below w.heap.size w wc))
    case first =>
     have H := HC22.out
     clear HC22
     replace H := BS H
     obtain ⟨⟨t317, t318⟩, A300, H⟩ := H
     have A30 := Aside0.mk A300
     clear A300
     replace H := BS H
     obtain ⟨t319, A310, H⟩ := H
     have A31 := Aside0.mk A310
     clear A310
     by_cases c32 : t319 ≥ 0
     ·rw [if_pos c32] at H
      have c32b0 : decide (0 ≤ t319) = true := decide_eq_true c32
      clear c32
      (first | rw [c32b0] | (simp only [i64_w, i32_w]; rw [c32b0]) | skip)
      have H' := Aside0.mk H
      clear H
      try go_wp2
      have n0_ : Aside0 (Kd.R k49 49 ((w26.setCell ⟨gb316, 0, none⟩ (.int .i64 t311)).setCell ⟨gb316, 1, none⟩ (.slice Ao28 t312.length co28)) w.heap.size (fun _ => True) (.slice Ao28 t312.length co28) t312) := ⟨by refine PRx ?_; exact Kd.R_mono (FR (FR (Kd.R_types HO314.out BK316.out (by decide)))) (fun _ hk => trivial)⟩
      have n1_ : Aside0 (((w26.setCell ⟨gb316, 0, none⟩ (.int .i64 t311)).setCell ⟨gb316, 1, none⟩ (.slice Ao28 t312.length co28)).heap[gb305]? = some (.cells #[.int .i64 a0_0, .slice A0_1 l0_1.length c0_1] 25 (0, 0))) := ⟨by refine PX ?_; refine blk_far ?_ NB305_316.out _; refine PX ?_; refine blk_far ?_ NB305_316.out _; exact BD BK305⟩
      have n2_ : Aside0 (((w26.setCell ⟨gb316, 0, none⟩ (.int .i64 t311)).setCell ⟨gb316, 1, none⟩ (.slice Ao28 t312.length co28)).heap[gb306]? = some (.cells #[.int .i64 0, .slice none 0 0] 25 (0, 0))) := ⟨by refine PX ?_; refine blk_far ?_ NB306_316.out _; refine PX ?_; refine blk_far ?_ NB306_316.out _; exact BD BK306⟩
      have n3_ : Aside0 (((w26.setCell ⟨gb316, 0, none⟩ (.int .i64 t311)).setCell ⟨gb316, 1, none⟩ (.slice Ao28 t312.length co28)).heap[gb316]? = some (.cells #[.int .i64 t311, .slice Ao28 t312.length co28] 25 (0, 0))) := ⟨by refine PX ?_; refine blk_put (cs := #[.int .i64 t311, .slice none 0 0]) ?_ 1 _ rfl; refine PX ?_; refine blk_put (cs := #[.int .i64 0, .slice none 0 0]) ?_ 0 _ rfl; exact BD BK316⟩
      have n4_ : Aside0 (Below w.heap.size w ((w26.setCell ⟨gb316, 0, none⟩ (.int .i64 t311)).setCell ⟨gb316, 1, none⟩ (.slice Ao28 t312.length co28))) := ⟨spec_Add.z0⟩
      (try clear HO314)
      (try clear BK305)
      (try clear BK306)
      (try clear BK316)
      (try clear HB)
      generalize ((w26.setCell ⟨gb316, 0, none⟩ (.int .i64 t311)).setCell ⟨gb316, 1, none⟩ (.slice Ao28 t312.length co28)) = w33 at n0_ n1_ n2_ n3_ n4_ ⊢
      have HO314 := n0_
      have BK305 := n1_
      have BK306 := n2_
      have BK316 := n3_
      have HB := n4_
      clear n0_ n1_ n2_ n3_ n4_
      have n_ : _ ∧ _ ∧ _ ∧ _ ∧ _ := ⟨AsM (Kd.R_drew HO314.out), AsM (blk_drew BK305.out), AsM (blk_drew BK306.out), AsM (blk_drew BK316.out), AsM (below_drew1 HB.out)⟩
      clear HO314 BK305 BK306 BK316 HB
      obtain ⟨HO314, BK305, BK306, BK316, HB⟩ := n_
      refine start_ (n := 11) (S := fun w' => w'.cell? ⟨gb305, 0, none⟩ = some (.int .i64 a0_0) ∧ w'.cell? ⟨gb305, 1, none⟩ = some (.slice A0_1 l0_1.length c0_1)) (ds := []) #[false, false, false, false, false, false, false, false, false, false, false] (by kernel_rfl) rfl rfl ⟨(blk_cell BK305.out 0).trans rfl, (blk_cell BK305.out 1).trans rfl⟩ (fun hHeld => ?_); refine with_tabW spec_Add.tab4 spec_Add.bits4 (fun HT_ HW_ => ?_)
      generalize w33.drew = w34 at HO314 BK305 BK306 BK316 HB hHeld ⊢
      refine PU (i := 1) (N := some 29) #[false, true, false, false, false, false, false, false, false, false, false] rfl rfl HT_ ?_
      refine PT (i := 0) (N := some 28) (tf 2 9) rfl rfl HT_ HW_ hHeld ?_
      refine one_ (i := 2) (N := some 30) (tf 3 8) rfl rfl (one_of HT_.out (by kernel_rfl)) (by decide) (fun K hK => ?_)
      refine goes_ Try.func59 (by kernel_rfl) rfl #[.string a1] (by rfl) rfl rfl AQ ?_
      with_reducible refine (spec_l19Key.calls kj2 a1 t317 t318 _ A30.out).mono ?_
      rintro e w35 ⟨rfl, hb⟩
      refine ⟨_, rfl, ?_⟩
      have n_ : _ ∧ _ ∧ _ ∧ _ ∧ _ := ⟨AsM (Kd.R_below (RD HO314) hb), AsM (blk_below (BD BK305) hb), AsM (blk_below (BD BK306) hb), AsM (blk_below (BD BK316) hb), AsM (below_step BG hb)⟩
      clear HO314 BK305 BK306 BK316 HB
      obtain ⟨HO314, BK305, BK306, BK316, HB⟩ := n_
      (try clear hb)
      (try clear hb2)
      (try clear hk)
      (try clear hi)
      refine hK.out _ _ ⟨(blk_cell BK305.out 0).trans rfl, (blk_cell BK305.out 1).trans rfl⟩ (fun hHeld => ?_)
      clear hK K
      refine NM (some 30) ?_
      refine one_ (i := 3) (N := some 31) (tf 4 7) rfl rfl (one_of HT_.out (by kernel_rfl)) (by decide) (fun K hK => ?_)
      refine goes_ Try.func54 (by kernel_rfl) rfl #[.agg #[.int .i64 a0_0, .slice A0_1 l0_1.length c0_1], .agg #[.int .i64 t317, .string t318]] (by rfl) rfl rfl AQ ?_
      with_reducible refine (spec_l19At.calls kj2 a0_0 _ _ l0_1 t317 t318 t319 _ ?side1 ?side2 A31.out).mono ?_
      (case side1 => exact SC HR0_1)
      (case side2 => exact HC0_1.out)
      rintro e w36 ⟨rfl, hb⟩
      refine ⟨_, rfl, ?_⟩
      have n_ : _ ∧ _ ∧ _ ∧ _ ∧ _ := ⟨AsM (Kd.R_below (RD HO314) hb), AsM (blk_below (BD BK305) hb), AsM (blk_below (BD BK306) hb), AsM (blk_below (BD BK316) hb), AsM (below_step BG hb)⟩
      clear HO314 BK305 BK306 BK316 HB
      obtain ⟨HO314, BK305, BK306, BK316, HB⟩ := n_
      (try clear hb)
      (try clear hb2)
      (try clear hk)
      (try clear hi)
      refine hK.out _ _ ⟨(blk_cell BK305.out 0).trans rfl, (blk_cell BK305.out 1).trans rfl⟩ (fun hHeld => ?_)
      clear hK K
      refine NM (some 31) ?_
      refine PU (i := 4) (N := some 32) (tf 5 6) rfl rfl HT_ ?_
      refine PU (i := 5) (N := some 33) (tf 6 5) rfl rfl HT_ ?_
      refine PN (i := 6) (N := some 34) (tf 7 4) rfl rfl HT_ ?_
      refine PN (i := 7) (N := some 35) (tf 8 3) rfl rfl HT_ ?_
      refine PN (i := 8) (N := some 36) (tf 9 2) rfl rfl HT_ ?_
      refine PN (i := 9) (N := some 37) (tf 10 1) rfl rfl HT_ ?_
      refine PU (i := 10) (N := some 38) (tf 11 0) rfl rfl HT_ ?_
      refine done_ (done_of HT_.out (by kernel_rfl)) ?_
      try go_wp2
      go_meet
      case rel => exact ⟨_, (true), RS, H', ⟨by have := HJ2.out; first | omega | exact Nat.le_refl _⟩, ⟨RD HO314⟩, ⟨BD BK305⟩, ⟨BD BK306⟩, ⟨BD BK316⟩, ⟨spec_Add.z0⟩⟩
     ·rw [if_neg c32] at H
      have c32b0 : decide (0 ≤ t319) = false := decide_eq_false c32
      clear c32
      (first | rw [c32b0] | (simp only [i64_w, i32_w]; rw [c32b0]) | skip)
      replace H := BS H
      obtain ⟨t320, A370, H⟩ := H
      have A37 := Aside0.mk A370
      clear A370
      have H' := Aside0.mk H
      clear H
      try go_wp2
      have n0_ : Aside0 (Kd.R k49 49 ((w26.setCell ⟨gb316, 0, none⟩ (.int .i64 t311)).setCell ⟨gb316, 1, none⟩ (.slice Ao28 t312.length co28)) w.heap.size (fun _ => True) (.slice Ao28 t312.length co28) t312) := ⟨by refine PRx ?_; exact Kd.R_mono (FR (FR (Kd.R_types HO314.out BK316.out (by decide)))) (fun _ hk => trivial)⟩
      have n1_ : Aside0 (((w26.setCell ⟨gb316, 0, none⟩ (.int .i64 t311)).setCell ⟨gb316, 1, none⟩ (.slice Ao28 t312.length co28)).heap[gb305]? = some (.cells #[.int .i64 a0_0, .slice A0_1 l0_1.length c0_1] 25 (0, 0))) := ⟨by refine PX ?_; refine blk_far ?_ NB305_316.out _; refine PX ?_; refine blk_far ?_ NB305_316.out _; exact BD BK305⟩
      have n2_ : Aside0 (((w26.setCell ⟨gb316, 0, none⟩ (.int .i64 t311)).setCell ⟨gb316, 1, none⟩ (.slice Ao28 t312.length co28)).heap[gb306]? = some (.cells #[.int .i64 0, .slice none 0 0] 25 (0, 0))) := ⟨by refine PX ?_; refine blk_far ?_ NB306_316.out _; refine PX ?_; refine blk_far ?_ NB306_316.out _; exact BD BK306⟩
      have n3_ : Aside0 (((w26.setCell ⟨gb316, 0, none⟩ (.int .i64 t311)).setCell ⟨gb316, 1, none⟩ (.slice Ao28 t312.length co28)).heap[gb316]? = some (.cells #[.int .i64 t311, .slice Ao28 t312.length co28] 25 (0, 0))) := ⟨by refine PX ?_; refine blk_put (cs := #[.int .i64 t311, .slice none 0 0]) ?_ 1 _ rfl; refine PX ?_; refine blk_put (cs := #[.int .i64 0, .slice none 0 0]) ?_ 0 _ rfl; exact BD BK316⟩
      have n4_ : Aside0 (Below w.heap.size w ((w26.setCell ⟨gb316, 0, none⟩ (.int .i64 t311)).setCell ⟨gb316, 1, none⟩ (.slice Ao28 t312.length co28))) := ⟨spec_Add.z0⟩
      (try clear HO314)
      (try clear BK305)
      (try clear BK306)
      (try clear BK316)
      (try clear HB)
      generalize ((w26.setCell ⟨gb316, 0, none⟩ (.int .i64 t311)).setCell ⟨gb316, 1, none⟩ (.slice Ao28 t312.length co28)) = w38 at n0_ n1_ n2_ n3_ n4_ ⊢
      have HO314 := n0_
      have BK305 := n1_
      have BK306 := n2_
      have BK316 := n3_
      have HB := n4_
      clear n0_ n1_ n2_ n3_ n4_
      have n_ : _ ∧ _ ∧ _ ∧ _ ∧ _ := ⟨AsM (Kd.R_drew HO314.out), AsM (blk_drew BK305.out), AsM (blk_drew BK306.out), AsM (blk_drew BK316.out), AsM (below_drew1 HB.out)⟩
      clear HO314 BK305 BK306 BK316 HB
      obtain ⟨HO314, BK305, BK306, BK316, HB⟩ := n_
      refine start_ (n := 11) (S := fun w' => w'.cell? ⟨gb305, 0, none⟩ = some (.int .i64 a0_0) ∧ w'.cell? ⟨gb305, 1, none⟩ = some (.slice A0_1 l0_1.length c0_1)) (ds := []) #[false, false, false, false, false, false, false, false, false, false, false] (by kernel_rfl) rfl rfl ⟨(blk_cell BK305.out 0).trans rfl, (blk_cell BK305.out 1).trans rfl⟩ (fun hHeld => ?_); refine with_tabW spec_Add.tab4 spec_Add.bits4 (fun HT_ HW_ => ?_)
      generalize w38.drew = w39 at HO314 BK305 BK306 BK316 HB hHeld ⊢
      refine PU (i := 1) (N := some 29) #[false, true, false, false, false, false, false, false, false, false, false] rfl rfl HT_ ?_
      refine PT (i := 0) (N := some 28) (tf 2 9) rfl rfl HT_ HW_ hHeld ?_
      refine one_ (i := 2) (N := some 30) (tf 3 8) rfl rfl (one_of HT_.out (by kernel_rfl)) (by decide) (fun K hK => ?_)
      refine goes_ Try.func59 (by kernel_rfl) rfl #[.string a1] (by rfl) rfl rfl AQ ?_
      with_reducible refine (spec_l19Key.calls kj2 a1 t317 t318 _ A30.out).mono ?_
      rintro e w40 ⟨rfl, hb⟩
      refine ⟨_, rfl, ?_⟩
      have n_ : _ ∧ _ ∧ _ ∧ _ ∧ _ := ⟨AsM (Kd.R_below (RD HO314) hb), AsM (blk_below (BD BK305) hb), AsM (blk_below (BD BK306) hb), AsM (blk_below (BD BK316) hb), AsM (below_step BG hb)⟩
      clear HO314 BK305 BK306 BK316 HB
      obtain ⟨HO314, BK305, BK306, BK316, HB⟩ := n_
      (try clear hb)
      (try clear hb2)
      (try clear hk)
      (try clear hi)
      refine hK.out _ _ ⟨(blk_cell BK305.out 0).trans rfl, (blk_cell BK305.out 1).trans rfl⟩ (fun hHeld => ?_)
      clear hK K
      refine NM (some 30) ?_
      refine one_ (i := 3) (N := some 31) (tf 4 7) rfl rfl (one_of HT_.out (by kernel_rfl)) (by decide) (fun K hK => ?_)
      refine goes_ Try.func54 (by kernel_rfl) rfl #[.agg #[.int .i64 a0_0, .slice A0_1 l0_1.length c0_1], .agg #[.int .i64 t317, .string t318]] (by rfl) rfl rfl AQ ?_
      with_reducible refine (spec_l19At.calls kj2 a0_0 _ _ l0_1 t317 t318 t319 _ ?side1 ?side2 A31.out).mono ?_
      (case side1 => exact SC HR0_1)
      (case side2 => exact HC0_1.out)
      rintro e w41 ⟨rfl, hb⟩
      refine ⟨_, rfl, ?_⟩
      have n_ : _ ∧ _ ∧ _ ∧ _ ∧ _ := ⟨AsM (Kd.R_below (RD HO314) hb), AsM (blk_below (BD BK305) hb), AsM (blk_below (BD BK306) hb), AsM (blk_below (BD BK316) hb), AsM (below_step BG hb)⟩
      clear HO314 BK305 BK306 BK316 HB
      obtain ⟨HO314, BK305, BK306, BK316, HB⟩ := n_
      (try clear hb)
      (try clear hb2)
      (try clear hk)
      (try clear hi)
      refine hK.out _ _ ⟨(blk_cell BK305.out 0).trans rfl, (blk_cell BK305.out 1).trans rfl⟩ (fun hHeld => ?_)
      clear hK K
      refine NM (some 31) ?_
      refine PU (i := 4) (N := some 32) (tf 5 6) rfl rfl HT_ ?_
      refine PU (i := 5) (N := some 33) (tf 6 5) rfl rfl HT_ ?_
      refine PT (i := 6) (N := some 34) (tf 7 4) rfl rfl HT_ HW_ hHeld ?_
      refine one_ (i := 7) (N := some 35) (tf 8 3) rfl rfl (one_of HT_.out (by kernel_rfl)) (by decide) (fun K hK => ?_)
      refine goes_ Try.func20 (by kernel_rfl) rfl #[.agg #[.int .i64 a0_0, .slice A0_1 l0_1.length c0_1]] (by rfl) rfl rfl AQ ?_
      with_reducible refine (spec_Keys.calls kj2 a0_0 _ _ l0_1 t320 _ ?side1 ?side2 A37.out).mono ?_
      (case side1 => exact SC HR0_1)
      (case side2 => exact HC0_1.out)
      rintro e w42 ⟨v321, rfl, ho0, hb⟩
      refine ⟨_, rfl, ?_⟩
      have n_ : _ ∧ _ ∧ _ ∧ _ ∧ _ ∧ _ := ⟨AsM (Kd.R_below (RD HO314) hb), AsM (Kd.R_lower ho0 (below_size BG)), AsM (blk_below (BD BK305) hb), AsM (blk_below (BD BK306) hb), AsM (blk_below (BD BK316) hb), AsM (below_step BG hb)⟩
      clear HO314 BK305 BK306 BK316 HB
      obtain ⟨HO314, HO322, BK305, BK306, BK316, HB⟩ := n_
      (try clear hb)
      (try clear hb2)
      (try clear hk)
      (try clear hi)
      (try clear ho0)
      obtain ⟨Ao43, co43, eo43⟩ := Kd.R_slice HO322.out
      (first | subst eo43 | (injection eo43 with f1_ f2_ f3_; have f4_ := f1_.symm; have f5_ := f3_.symm; clear f1_ f2_ f3_; subst f4_; subst f5_))
      refine hK.out _ _ ⟨(blk_cell BK305.out 0).trans rfl, (blk_cell BK305.out 1).trans rfl⟩ (fun hHeld => ?_)
      clear hK K
      refine NM (some 35) ?_
      refine PU (i := 8) (N := some 36) (tf 9 2) rfl rfl HT_ ?_
      refine PU (i := 9) (N := some 37) (tf 10 1) rfl rfl HT_ ?_
      refine PU (i := 10) (N := some 38) (tf 11 0) rfl rfl HT_ ?_
      refine done_ (done_of HT_.out (by kernel_rfl)) ?_
      try go_wp2
      go_meet
      case rel => exact ⟨_, (((t320.length : Int) == 200)), RS, H', ⟨by have := HJ2.out; first | omega | exact Nat.le_refl _⟩, ⟨RD HO314⟩, ⟨BD BK305⟩, ⟨BD BK306⟩, ⟨BD BK316⟩, ⟨spec_Add.z0⟩⟩
    case rest =>
     clear HC22
     try clear c2
     try clear p2
     try clear c3
     try clear c5
     try clear c6
     try clear c7
     try clear c20
     try clear c32
     try clear c32b0
     obtain ⟨kq, x38_21, rfl, HA, HJ21, HO_317001, BK305, BK306, BK316, HB⟩ := hcut
     cases kq with
     | zero => exact absurd HA.out (by simp [spec_Add.j1])
     | succ kj21 =>
      have H := HA.out
      clear HA
      simp only [spec_Add.j1] at H
      by_cases c44 : x38_21 = true
      ·subst c44
       replace H := IP H
       simp only [Option.some.injEq, Prod.mk.injEq] at H
       obtain ⟨rfl, rfl, rfl⟩ := H
       have hnb45 := NB316_305.out
       have hnc45 := NB305_316.out
       have hnb46 := NB316_306.out
       have hnc46 := NB306_316.out
       obtain ⟨hcz47_0, hcz47_1, hfz47_0, hfz47_1⟩ := bk2 BK316.out
       have hnb48 := NB306_305.out
       have hnc48 := NB305_306.out
       obtain ⟨hcz49_0, hcz49_1, hfz49_0, hfz49_1⟩ := bk2 BK306.out
       go_wp2
       refine bodyPost_ret (results_ct rfl _ _ gb306 25 #[.int .i64 t311, .slice Ao28 t312.length co28] (0, 0) _ rfl (by refine PX ?_; refine blk_put (cs := #[.int .i64 t311, .slice none 0 0]) ?_ 1 _ rfl; refine PX ?_; refine blk_put (cs := #[.int .i64 0, .slice none 0 0]) ?_ 0 _ rfl; exact BD BK306) Try.underlying25 rfl (by kernel_rfl)) rfl ?_
       exact ⟨_, ER, by refine PRx ?_; exact Kd.R_mono (FR (FR (Kd.R_types HO_317001.out BK306.out (by decide)))) (fun _ hk => trivial), BG⟩
      ·replace c44 := Bool.eq_false_iff.mpr c44
       subst c44
       replace H := IN H
       replace H := BS H
       obtain ⟨⟨t323, t324⟩, A500, H⟩ := H
       have A50 := Aside0.mk A500
       clear A500
       replace H := BS H
       obtain ⟨⟨t325, t326⟩, A510, H⟩ := H
       have A51 := Aside0.mk A510
       clear A510
       simp only [Option.some.injEq, Prod.mk.injEq] at H
       obtain ⟨rfl, rfl, rfl⟩ := H
       try go_wp2
       have n_ : _ ∧ _ ∧ _ ∧ _ ∧ _ := ⟨AsM (Kd.R_drew HO_317001.out), AsM (blk_drew BK305.out), AsM (blk_drew BK306.out), AsM (blk_drew BK316.out), AsM (below_drew1 HB.out)⟩
       clear HO_317001 BK305 BK306 BK316 HB
       obtain ⟨HO_317001, BK305, BK306, BK316, HB⟩ := n_
       refine start_ (n := 6) (S := fun w' => w'.cell? ⟨gb316, 0, none⟩ = some (.int .i64 t311) ∧ w'.cell? ⟨gb316, 1, none⟩ = some (.slice Ao28 t312.length co28)) (ds := []) #[false, false, false, false, false, false] (by kernel_rfl) rfl rfl ⟨(blk_cell BK316.out 0).trans rfl, (blk_cell BK316.out 1).trans rfl⟩ (fun hHeld => ?_)
       generalize wc.drew = w52 at HO_317001 BK305 BK306 BK316 HB hHeld ⊢
       refine PV (i := 1) (N := some 41) #[false, true, false, false, false, false] rfl rfl ?_
       refine PK (i := 0) (N := some 40) (tf 2 4) rfl rfl hHeld ?_
       refine one_ (i := 2) (N := some 42) (tf 3 3) rfl rfl (by kernel_rfl) (by decide) (fun K hK => ?_)
       refine goes_ Try.func59 (by kernel_rfl) rfl #[.string a1] (by rfl) rfl rfl AQ ?_
       with_reducible refine (spec_l19Key.calls kj21 a1 t323 t324 _ A50.out).mono ?_
       rintro e w53 ⟨rfl, hb⟩
       refine ⟨_, rfl, ?_⟩
       have n_ : _ ∧ _ ∧ _ ∧ _ ∧ _ := ⟨AsM (Kd.R_below (RD HO_317001) hb), AsM (blk_below (BD BK305) hb), AsM (blk_below (BD BK306) hb), AsM (blk_below (BD BK316) hb), AsM (below_step BG hb)⟩
       clear HO_317001 BK305 BK306 BK316 HB
       obtain ⟨HO_317001, BK305, BK306, BK316, HB⟩ := n_
       (try clear hb)
       (try clear hb2)
       (try clear hk)
       (try clear hi)
       refine hK.out _ _ ⟨(blk_cell BK316.out 0).trans rfl, (blk_cell BK316.out 1).trans rfl⟩ (fun hHeld => ?_)
       clear hK K
       refine NM (some 42) ?_
       refine one_ (i := 3) (N := some 43) (tf 4 2) rfl rfl (by kernel_rfl) (by decide) (fun K hK => ?_)
       refine goes_ Try.func79 (by kernel_rfl) rfl #[.agg #[.int .i64 t311, .slice Ao28 t312.length co28], .agg #[.int .i64 t323, .string t324]] (by rfl) rfl rfl AQ ?_
       with_reducible refine (spec_l19Put.calls kj21 t311 (fun k_ => some k_ = (.slice Ao28 t312.length co28 : Value).ownBlock) (.slice Ao28 t312.length co28) t312 t323 t324 t325 t326 w _ ?side1 ?side2 A51.out).mono ?_
       (case side1 => repeat (first | (with_reducible first | exact HB.out | apply below_alloc | apply pw_below_drewN | apply below_drew1 | refine below_set ?_ GE305.out | refine below_set ?_ GE306.out | refine below_set ?_ GE316.out) | exact HB.out))
       (case side2 => exact Kd.R_tight rfl HO_317001.out)
       rintro e w54 ⟨v327, rfl, ho0, hb, hkp⟩
       refine ⟨_, rfl, ?_⟩
       have n_ : _ ∧ _ ∧ _ ∧ _ ∧ _ := ⟨AsM (blk_kept (BD BK305) hkp (fun hs_ => (fun e_ => (Kd.R_ne HO_317001.out BK305.out (by decide)) e_) hs_)), AsM (blk_kept (BD BK306) hkp (fun hs_ => (fun e_ => (Kd.R_ne HO_317001.out BK306.out (by decide)) e_) hs_)), AsM (blk_kept (BD BK316) hkp (fun hs_ => (fun e_ => (Kd.R_ne HO_317001.out BK316.out (by decide)) e_) hs_)), AsM (Kd.R_mono (ok' := fun k_ => True) ho0 (fun k_ hk_ => trivial)), AsM (hb)⟩
       clear BK305 BK306 BK316 HB HO_317001
       obtain ⟨BK305, BK306, BK316, HO328, HB⟩ := n_
       (try clear hb)
       (try clear hkp)
       (try clear ho0)
       obtain ⟨Ao56, co56, eo56⟩ := Kd.R_slice HO328.out
       (first | subst eo56 | (injection eo56 with f1_ f2_ f3_; have f4_ := f1_.symm; have f5_ := f3_.symm; clear f1_ f2_ f3_; subst f4_; subst f5_))
       refine hK.out _ _ ⟨(blk_cell BK316.out 0).trans rfl, (blk_cell BK316.out 1).trans rfl⟩ (fun hHeld => ?_)
       clear hK K
       refine NM (some 43) ?_
       refine one_ (i := 4) (N := none) (tf 5 1) rfl rfl (by kernel_rfl) (by decide) (fun K hK => ?_)
       have hs55 : w54.cell? ⟨gb306, 0, none⟩ = some (.int .i64 0) := (blk_cell BK306.out 0).trans rfl
       have hfs55 := blk_frozen BK306.out 0
       have hns55_0 := NB305_306.out
       have hns55_2 := NB316_306.out
       have hms55_0 := NB306_305.out
       have hms55_2 := NB306_316.out
       have hs57 : w54.cell? ⟨gb306, 1, none⟩ = some (.slice none 0 0) := (blk_cell BK306.out 1).trans rfl
       have hfs57 := blk_frozen BK306.out 1
       have hns57_0 := NB305_306.out
       have hns57_2 := NB316_306.out
       have hms57_0 := NB306_305.out
       have hms57_2 := NB306_316.out
       refine skip_ (w1 := ?_) (by rfl) rfl ?_ ?_
       rotate_left
       ·go_simp
        rfl
       refine hK.out _ _ ⟨((cell_far (p := ⟨gb306, _, none⟩) NB316_306.out _).trans (((cell_far (p := ⟨gb306, _, none⟩) NB316_306.out _).trans (hHeld.1)))), ((cell_far (p := ⟨gb306, _, none⟩) NB316_306.out _).trans (((cell_far (p := ⟨gb306, _, none⟩) NB316_306.out _).trans (hHeld.2))))⟩ (fun hHeld => ?_)
       clear hK K
       refine PV (i := 5) (N := some 5) (tf 6 0) rfl rfl ?_
       refine done_ (by kernel_rfl) ?_
       try go_wp2
       refine bodyPost_ret (results_ct rfl _ _ gb306 25 #[.int .i64 t325, .slice Ao56 t326.length co56] (0, 0) _ rfl (by refine PX ?_; refine blk_put (cs := #[.int .i64 t325, .slice none 0 0]) ?_ 1 _ rfl; refine PX ?_; refine blk_put (cs := #[.int .i64 0, .slice none 0 0]) ?_ 0 _ rfl; exact BD BK306) Try.underlying25 rfl (by kernel_rfl)) rfl ?_
       exact ⟨_, ER, by refine PRx ?_; exact Kd.R_mono (FR (FR (Kd.R_types HO328.out BK306.out (by decide)))) (fun _ hk => trivial), BG⟩
end Go.Proofs.Ytbjlldjkkdiblaa.G
