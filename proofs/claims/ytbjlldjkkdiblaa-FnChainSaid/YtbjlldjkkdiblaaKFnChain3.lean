/- Part 3 of the claim FnChain, merged by pack.py (this session's program) out of: the print's words, cut to what is needed; texts that gen.py printed (it runs the kit's print in place); texts of this session. -/
import Derived.Test.YtbjlldjkkdiblaaKFnChain1
import Derived.Test.YtbjlldjkkdiblaaKFnChain2
namespace Go.Proofs.Ytbjlldjkkdiblaa.Sh
end Go.Proofs.Ytbjlldjkkdiblaa.Sh
namespace Go.Proofs.Ytbjlldjkkdiblaa.G
open Go.RowKit Go.Proofs.YtbjlldjkkdiblaaW.PrintWords Go.Proofs.YtbjlldjkkdiblaaW.PrintLast Go.Proofs.YtbjlldjkkdiblaaW.PrintMore Go.Proofs.Ytbjlldjkkdiblaa.Sh
attribute [local go_sem] max2_int min2_int max_two min_two max_three min_three max_four min_four
set_option linter.unusedVariables false
set_option linter.unusedSimpArgs false
def spec_l19Some.f (k : Nat) (s0_0 : List Int) (s0_1 : Int) (s0_2 : Int) (a1_0 : Int) (l1_1 : List (S49)) : Option (Int × (List (S49)) × Int × Int) := (spec_l01Below.f s0_0 s0_1 s0_2 7).bind fun bt331 => (if bt331.1 = 0 then ((spec_Grow.f k a1_0 l1_1).bind fun bt334 => (some (bt334.1, bt334.2.1, bt331.2.1, bt331.2.2))) else (if bt331.1 = 1 then ((spec_l01Below.f s0_0 bt331.2.1 bt331.2.2 a1_0).bind fun bt339 => ((spec_Open.f k a1_0 l1_1 bt339.1).bind fun bt342 => (some (bt342.1, bt342.2.1, bt339.2.1, bt339.2.2)))) else (if bt331.1 = 2 then ((spec_l19Word.f s0_0 bt331.2.1 bt331.2.2).bind fun bt347 => ((spec_Del.f k a1_0 l1_1 bt347.1).bind fun bt350 => (some (bt350.1, bt350.2.1, bt347.2.1, bt347.2.2)))) else ((spec_l19Word.f s0_0 bt331.2.1 bt331.2.2).bind fun bt355 => ((spec_Add.f k a1_0 l1_1 bt355.1).bind fun bt358 => (some (bt358.1, bt358.2.1, bt355.2.1, bt355.2.2)))))))
theorem spec_l19Some.mono : ∀ a0 a1 a2 a3 a4 k, LeO (spec_l19Some.f k a0 a1 a2 a3 a4) (spec_l19Some.f (k + 1) a0 a1 a2 a3 a4) := by
 intro a0 a1 a2 a3 a4 k
 unfold spec_l19Some.f
 repeat' first | (with_reducible first | exact spec_Add.mono _ _ _ _ | exact spec_Del.mono _ _ _ _ | exact spec_Grow.mono _ _ _ | exact spec_Open.mono _ _ _ _ | exact LeO.refl _ | exact LeO.none _ | refine LeO.ite ?_ ?_ | refine LeO.bind ?_ (fun _ => ?_)) | exact spec_Add.mono _ _ _ _ | exact spec_Del.mono _ _ _ _ | exact spec_Grow.mono _ _ _ | exact spec_Open.mono _ _ _ _ | exact LeO.none _ | refine LeO.ite ?_ ?_ | refine LeO.bind ?_ (fun _ => ?_)
def spec_l19Some.T2 : Bool × List (List Nat × List Nat) := (true, [([], []), ([], []), ([1], [1]), ([0, 2, 2], [0, 2]), ([3], [3]), ([4], [4]), ([4], [4]), ([5, 3, 0, 1, 2, 3, 4, 5], [5])])
def spec_l19Some.B2 : List Nat := [0, 0, 2, 7, 15, 31, 31, 63]
theorem spec_l19Some.tab2 : rtab .any (opsOf Try.f42 2) = spec_l19Some.T2 := by kernel_rfl
theorem spec_l19Some.bits2 : waitsOk spec_l19Some.T2.2 spec_l19Some.B2 = true := by kernel_rfl
def spec_l19Some.T6 : Bool × List (List Nat × List Nat) := (true, [([], []), ([], []), ([], []), ([2], [2]), ([1, 3], [1, 3]), ([0, 4, 4], [0, 4]), ([5], [5]), ([6], [6]), ([6], [6]), ([7, 5, 0, 1, 2, 3, 4, 5, 6, 7], [7])])
def spec_l19Some.B6 : List Nat := [0, 0, 0, 4, 14, 31, 63, 127, 127, 255]
theorem spec_l19Some.tab6 : rtab .any (opsOf Try.f42 6) = spec_l19Some.T6 := by kernel_rfl
theorem spec_l19Some.bits6 : waitsOk spec_l19Some.T6.2 spec_l19Some.B6 = true := by kernel_rfl
def spec_l19Some.T8 : Bool × List (List Nat × List Nat) := (true, [([], []), ([], []), ([1], [1]), ([0, 2, 2], [0, 2]), ([3], [3]), ([4], [4]), ([4], [4]), ([5, 3, 0, 1, 2, 3, 4, 5], [5])])
def spec_l19Some.B8 : List Nat := [0, 0, 2, 7, 15, 31, 31, 63]
theorem spec_l19Some.tab8 : rtab .any (opsOf Try.f42 8) = spec_l19Some.T8 := by kernel_rfl
theorem spec_l19Some.bits8 : waitsOk spec_l19Some.T8.2 spec_l19Some.B8 = true := by kernel_rfl
theorem spec_l19Some.z0 {P : Prop} (h : P := by repeat (first | (with_reducible first | exact HK.out | apply KeepBut.set_ | apply keep_drewN | apply keep_drew | apply keep_alloc | refine keep_far ?_ GW329.out _ | refine keep_far ?_ GW330.out _) | exact HK.out)) : P := h
theorem spec_l19Some.z1 {P : Prop} (h : P := by repeat (first | (with_reducible first | exact HK.out | apply KeepBut.set_ | apply keep_drewN | apply keep_drew | apply keep_alloc | refine keep_far ?_ GW329.out _) | exact HK.out)) : P := h
theorem spec_l19Some.z2 {P : Prop} (h : P := by rw [hg]; exact (keep_size (w := w) (g := g) (row := none) (by repeat (first | (with_reducible first | exact HK.out | apply KeepBut.set_ | apply keep_drewN | apply keep_drew | apply keep_alloc | refine keep_far ?_ GW329.out _) | exact HK.out)))) : P := h
theorem spec_l19Some.z3 {P : Prop} (h : P := by repeat (first | (with_reducible first | exact HI0.out | apply IsS46.alloc | apply IsS46.drewN | apply IsS46.drew | apply IsS46.set_1 | apply IsS46.set_2 | refine IsS46.far ?_ NB0_329.out _ | refine IsS46.far ?_ NB0_330.out _) | exact HI0.out)) : P := h
theorem spec_l19Some.z4 {P : Prop} (h : P := by repeat (first | (with_reducible first | exact HB.out | apply below_alloc | apply pw_below_drewN | apply below_drew1 | refine below_set ?_ (IsS46.ge HI0.out) | refine below_set ?_ GE329.out | refine below_set ?_ GE330.out) | exact HB.out)) : P := h
theorem spec_l19Some.z5 {P : Prop} (h : P := by rw [hg]; exact (keep_size (w := w) (g := g) (row := none) (by repeat (first | (with_reducible first | exact HK.out | apply KeepBut.set_ | apply keep_drewN | apply keep_drew | apply keep_alloc) | exact HK.out)))) : P := h
theorem spec_l19Some.z6 {P : Prop} (h : P := by rw [hg]; exact Nat.ne_of_lt (IsS46.lt (show IsS46 w0 _ g s0_0 s0_1 s0_2 from by repeat (first | (with_reducible first | exact HI0.out | apply IsS46.alloc | apply IsS46.drewN | apply IsS46.drew | apply IsS46.set_1 | apply IsS46.set_2 | refine IsS46.far ?_ NB0_329.out _) | exact HI0.out)))) : P := h
theorem spec_l19Some.z7 {P : Prop} (h : P := by rw [hg]; exact Nat.ne_of_gt (IsS46.lt (show IsS46 w0 _ g s0_0 s0_1 s0_2 from by repeat (first | (with_reducible first | exact HI0.out | apply IsS46.alloc | apply IsS46.drewN | apply IsS46.drew | apply IsS46.set_1 | apply IsS46.set_2 | refine IsS46.far ?_ NB0_329.out _) | exact HI0.out)))) : P := h
theorem spec_l19Some.z8 {P : Prop} (h : P := by rw [hg]; exact Nat.ne_of_lt (IsS46.lt (show IsS46 w0 _ g s0_0 s0_1 s0_2 from by repeat (first | (with_reducible first | exact HI0.out | apply IsS46.alloc | apply IsS46.drewN | apply IsS46.drew | apply IsS46.set_1 | apply IsS46.set_2) | exact HI0.out)))) : P := h
theorem spec_l19Some.z9 {P : Prop} (h : P := by rw [hg]; exact Nat.ne_of_gt (IsS46.lt (show IsS46 w0 _ g s0_0 s0_1 s0_2 from by repeat (first | (with_reducible first | exact HI0.out | apply IsS46.alloc | apply IsS46.drewN | apply IsS46.drew | apply IsS46.set_1 | apply IsS46.set_2) | exact HI0.out)))) : P := h
theorem spec_l19Some.z10 {P : Prop} (h : P := by repeat (first | (with_reducible first | exact HI0.out | apply IsS46.alloc | apply IsS46.drewN | apply IsS46.drew | apply IsS46.set_1 | apply IsS46.set_2 | refine IsS46.far ?_ NB0_329.out _) | exact HI0.out)) : P := h
theorem spec_l19Some.z11 {P : Prop} (h : P := by repeat (first | (with_reducible first | exact HB.out | apply below_alloc | apply pw_below_drewN | apply below_drew1 | refine below_set ?_ (IsS46.ge HI0.out) | refine below_set ?_ GE329.out) | exact HB.out)) : P := h
theorem spec_l19Some.z12 {P : Prop} (h : P := by repeat (first | (with_reducible first | exact HB.out | apply below_alloc | apply pw_below_drewN | apply below_drew1 | refine below_set ?_ (IsS46.ge HI0.out)) | exact HB.out)) : P := h
theorem spec_l19Some.z13 {P : Prop} (h : P := by repeat (first | (with_reducible first | exact HI0.out | apply IsS46.alloc | apply IsS46.drewN | apply IsS46.drew | apply IsS46.set_1 | apply IsS46.set_2) | exact HI0.out)) : P := h
theorem spec_l19Some.z14 {P : Prop} (h : P := by rw [hg]; exact Nat.ne_of_lt (blk_lt (BD BK329))) : P := h
theorem spec_l19Some.z15 {P : Prop} (h : P := by rw [hg]; exact Nat.ne_of_gt (blk_lt (BD BK329))) : P := h
set_option maxHeartbeats 8000000 in
set_option maxRecDepth 100000 in
theorem spec_l19Some.calls (k : Nat) (g : Nat) (s0_0 : List Int) (s0_1 : Int) (s0_2 : Int) (a1_0 : Int) (A1_1 : Option Addr) (c1_1 : Nat) (l1_1 : List (S49)) (r1 : Int) (r2 : List (S49)) (r3 : Int) (r4 : Int) (w0 w : World) (hI : IsS46 w0 w g s0_0 s0_1 s0_2) (hB : Below w0.heap.size w0 w) (hr1_1 : ∀ W_, KeepBut w W_ g none → Kd.C k49 W_ A1_1 l1_1.length l1_1) (hc1_1 : l1_1.length ≤ c1_1) (h : spec_l19Some.f k s0_0 s0_1 s0_2 a1_0 l1_1 = some (r1, r2, r3, r4)) :
  Calls Try.prog 42 #[.pointer (some ⟨g, 0, none⟩), .agg #[.int .i64 a1_0, .slice A1_1 l1_1.length c1_1]] w fun e w' => ∃ v1_ : Value, e = .returned (.agg #[.int .i64 r1, v1_]) ∧ Kd.R k49 49 w' w.heap.size (fun _ => True) v1_ r2 ∧ IsS46 w0 w' g s0_0 r3 r4 ∧ Below w0.heap.size w0 w' ∧ KeepBut w w' g none := by
 have hu25 := Try.underlying25
 have HR1_1 := Aside0.mk hr1_1
 have HC1_1 := Aside0.mk hc1_1
 clear hr1_1 hc1_1
 have HI0 := Aside0.mk hI
 have HK := Aside0.mk (KeepBut.refl w g none)
 have HL := Aside0.mk hB.size
 clear hI
 have HW0 := Aside0.mk hB.size
 have HB := Aside0.mk hB
 clear hB
 have H : ((spec_l01Below.f s0_0 s0_1 s0_2 7).bind fun bt331 => (if bt331.1 = 0 then ((spec_Grow.f k a1_0 l1_1).bind fun bt334 => (some (bt334.1, bt334.2.1, bt331.2.1, bt331.2.2))) else (if bt331.1 = 1 then ((spec_l01Below.f s0_0 bt331.2.1 bt331.2.2 a1_0).bind fun bt339 => ((spec_Open.f k a1_0 l1_1 bt339.1).bind fun bt342 => (some (bt342.1, bt342.2.1, bt339.2.1, bt339.2.2)))) else (if bt331.1 = 2 then ((spec_l19Word.f s0_0 bt331.2.1 bt331.2.2).bind fun bt347 => ((spec_Del.f k a1_0 l1_1 bt347.1).bind fun bt350 => (some (bt350.1, bt350.2.1, bt347.2.1, bt347.2.2)))) else ((spec_l19Word.f s0_0 bt331.2.1 bt331.2.2).bind fun bt355 => ((spec_Add.f k a1_0 l1_1 bt355.1).bind fun bt358 => (some (bt358.1, bt358.2.1, bt355.2.1, bt355.2.2)))))))) = some (r1, r2, r3, r4) := h
 clear h
 replace H := BS H
 obtain ⟨⟨t331, t332, t333⟩, A30, H⟩ := H
 have A3 := Aside0.mk A30
 clear A30
 by_cases c4 : t331 = 0
 ·rw [if_pos c4] at H
  have c4b0 : (t331 == 0) = true := beq_iff_eq.mpr c4
  have c4b1 : (t331 != 0) = false := bne_eq_false_iff_eq.mpr c4
  clear c4
  replace H := BS H
  obtain ⟨⟨t334, t335, t338⟩, A50, H⟩ := H
  have A5 := Aside0.mk A50
  clear A50
  simp only [Option.some.injEq, Prod.mk.injEq] at H
  obtain ⟨rfl, rfl, rfl, rfl⟩ := H
  go_enter Try.func42, Try.ntmps42
  go_wp2_with (first | ((with_reducible refine gate_dst (N := 3) rfl ?_); refine box_event ?hg (N := 3) ?hd (cs := #[.int .i64 a1_0, .slice A1_1 l1_1.length c1_1]) (t := 25) ?hr ?_; (case hd => rfl); (case hg => rfl); (case hr => first | (go_simp; done) | (go_simp; rfl)); intro gb329 hg w6 hbox hb; have n_ : _ ∧ _ ∧ _ ∧ _ ∧ _ ∧ _ ∧ _ ∧ _ := ⟨AsM (IsS46.below (spec_l19Some.z13) hb), AsM (KeepBut.trans (HK0) (KeepBut.of_below hb g none) (.inl rfl)), AsM (below_step (spec_l19Some.z12) hb), AsM (hbox), AsM ((spec_l19Some.z5 : w.heap.size ≤ gb329)), AsM ((Nat.le_trans HW0.out (spec_l19Some.z5 : w.heap.size ≤ gb329) : w0.heap.size ≤ gb329)), AsM ((spec_l19Some.z8 : g ≠ gb329)), AsM ((spec_l19Some.z9 : gb329 ≠ g))⟩; clear HI0 HK HB; obtain ⟨HI0, HK, HB, BK329, GW329, GE329, NB0_329, NB329_0⟩ := n_; clear hb hbox hg) | ((with_reducible refine gate_dst (N := 4) rfl ?_); refine box_event ?hg (N := 4) ?hd (cs := #[.int .i64 0, .slice none 0 0]) (t := 25) ?hr ?_; (case hd => rfl); (case hg => rfl); (case hr => first | (go_simp; done) | (go_simp; rfl)); intro gb330 hg w7 hbox hb; have n_ : _ ∧ _ ∧ _ ∧ _ ∧ _ ∧ _ ∧ _ ∧ _ ∧ _ ∧ _ ∧ _ := ⟨AsM (IsS46.below (spec_l19Some.z10) hb), AsM (blk_below (BD BK329) hb), AsM (KeepBut.trans (spec_l19Some.z1) (KeepBut.of_below hb g none) (.inl rfl)), AsM (below_step (spec_l19Some.z11) hb), AsM (hbox), AsM ((spec_l19Some.z2 : w.heap.size ≤ gb330)), AsM ((Nat.le_trans HW0.out (spec_l19Some.z2 : w.heap.size ≤ gb330) : w0.heap.size ≤ gb330)), AsM ((spec_l19Some.z14 : gb329 ≠ gb330)), AsM ((spec_l19Some.z15 : gb330 ≠ gb329)), AsM ((spec_l19Some.z6 : g ≠ gb330)), AsM ((spec_l19Some.z7 : gb330 ≠ g))⟩; clear HI0 BK329 HK HB; obtain ⟨HI0, BK329, HK, HB, BK330, GW330, GE330, NB329_330, NB330_329, NB0_330, NB330_0⟩ := n_; clear hb hbox hg) | ((with_reducible refine gate_callee (f := 30) rfl ?_); refine goesL_ (some 6) rfl rfl Try.func30 (by kernel_rfl) rfl #[.pointer (some ⟨g, 0, none⟩), .int .i64 7] rfl AQ ?_; (with_reducible refine (spec_l01Below.calls g s0_0 s0_1 s0_2 7 t331 t332 t333 w0 _ ?side1 ?side2 A3.out).mono ?_); (case side1 => repeat (first | (with_reducible first | exact HI0.out | apply IsS46.alloc | apply IsS46.drewN | apply IsS46.drew | apply IsS46.set_1 | apply IsS46.set_2 | refine IsS46.far ?_ NB0_329.out _ | refine IsS46.far ?_ NB0_330.out _) | exact HI0.out)); (case side2 => repeat (first | (with_reducible first | exact HB.out | apply below_alloc | apply pw_below_drewN | apply below_drew1 | refine below_set ?_ (IsS46.ge HI0.out) | refine below_set ?_ GE329.out | refine below_set ?_ GE330.out) | exact HB.out)); rintro e w8 ⟨rfl, hi, hb, hk⟩; refine ⟨_, rfl, ?_⟩; have n_ : _ ∧ _ ∧ _ ∧ _ ∧ _ := ⟨AsM (KeepBut.blk hk (g' := gb329) (o := .cells #[.int .i64 a1_0, .slice A1_1 l1_1.length c1_1] 25 (0, 0)) (BD BK329) NB329_0.out (by simp)), AsM (KeepBut.blk hk (g' := gb330) (o := .cells #[.int .i64 0, .slice none 0 0] 25 (0, 0)) (BD BK330) NB330_0.out (by simp)), AsM (KeepBut.trans (spec_l19Some.z0) hk (.inl rfl)), AsM (hb), AsM (hi)⟩; clear BK329 BK330 HK HB HI0; obtain ⟨BK329, BK330, HK, HB, HI0⟩ := n_; (try clear hb); (try clear hb2); (try clear hk); (try clear hi); have hnb9 := NB329_330.out; have hnc9 := NB330_329.out; have hnb10 := NB329_0.out; have hnc10 := NB0_329.out; obtain ⟨hcz11_0, hcz11_1, hfz11_0, hfz11_1⟩ := bk2 BK329.out) | ((with_reducible refine gate_callee (f := 60) rfl ?_); refine goesL_ (some 18) rfl rfl Try.func60 (by kernel_rfl) rfl #[.agg #[.int .i64 a1_0, .slice A1_1 l1_1.length c1_1]] rfl AQ ?_; (with_reducible refine (spec_Grow.calls k a1_0 _ _ l1_1 t334 t335 t338 _ ?side1 ?side2 A5.out).mono ?_); (case side1 => exact Kd.C_foot_now HR1_1.out (spec_l19Some.z0)); (case side2 => exact HC1_1.out); rintro e w12 ⟨v336, rfl, ho0, hb⟩; refine ⟨_, rfl, ?_⟩; have n_ : _ ∧ _ ∧ _ ∧ _ ∧ _ ∧ _ := ⟨AsM (Kd.R_lower ho0 (keep_size (w := w) (g := g) (row := none) (spec_l19Some.z0))), AsM (IsS46.below (spec_l19Some.z3) hb), AsM (blk_below (BD BK329) hb), AsM (blk_below (BD BK330) hb), AsM (KeepBut.trans (spec_l19Some.z0) (KeepBut.of_below hb g none) (.inl rfl)), AsM (below_step (spec_l19Some.z4) hb)⟩; clear HI0 BK329 BK330 HK HB; obtain ⟨HO337, HI0, BK329, BK330, HK, HB⟩ := n_; (try clear hb); (try clear hb2); (try clear hk); (try clear hi); (try clear ho0); obtain ⟨hcz13_0, hcz13_1, hfz13_0, hfz13_1⟩ := bk2 BK329.out; obtain ⟨Ao14, co14, eo14⟩ := Kd.R_slice HO337.out; subst eo14; have hnb15 := NB330_0.out; have hnc15 := NB0_330.out; obtain ⟨hcz16_0, hcz16_1, hfz16_0, hfz16_1⟩ := bk2 BK330.out))
  refine bodyPost_ret (results_cell_row rfl _ _ gb330 25 #[.int .i64 t334, .slice Ao14 t335.length co14] (0, 0) _ rfl (by refine PX ?_; refine blk_put (cs := #[.int .i64 t334, .slice none 0 0]) ?_ 1 _ rfl; refine PX ?_; refine blk_put (cs := #[.int .i64 0, .slice none 0 0]) ?_ 0 _ rfl; refine PX ?_; refine blk_far ?_ NB330_329.out _; refine PX ?_; refine blk_far ?_ NB330_329.out _; exact BD BK330) Try.underlying25 rfl (by kernel_rfl)) rfl ?_
  exact ⟨_, ER, by refine PRx ?_; exact Kd.R_mono (FR (FR (Kd.R_far (p := ⟨gb329, 1, none⟩) (Kd.R_far (p := ⟨gb329, 0, none⟩) (Kd.R_types (Kd.R_types HO337.out BK329.out (by decide)) BK330.out (by decide)) (fun _ hk => hk.1.2) (.int .i64 t334)) (fun _ hk => hk.1.2) (.slice Ao14 t335.length co14)))) (fun _ hk => trivial), spec_l19Some.z3, spec_l19Some.z4, spec_l19Some.z0⟩
 ·rw [if_neg c4] at H
  have c4b0 : (t331 == 0) = false := beq_eq_false_iff_ne.mpr c4
  have c4b1 : (t331 != 0) = true := bne_iff_ne.mpr c4
  by_cases c17 : t331 = 1
  ·rw [if_pos c17] at H
   have c17b0 : (t331 == 1) = true := beq_iff_eq.mpr c17
   have c17b1 : (t331 != 1) = false := bne_eq_false_iff_eq.mpr c17
   clear c17
   replace H := BS H
   obtain ⟨⟨t339, t340, t341⟩, A180, H⟩ := H
   have A18 := Aside0.mk A180
   clear A180
   replace H := BS H
   obtain ⟨⟨t342, t343, t346⟩, A190, H⟩ := H
   have A19 := Aside0.mk A190
   clear A190
   simp only [Option.some.injEq, Prod.mk.injEq] at H
   obtain ⟨rfl, rfl, rfl, rfl⟩ := H
   go_enter Try.func42, Try.ntmps42
   try go_wp2_with (first | ((with_reducible refine gate_dst (N := 3) rfl ?_); refine box_event ?hg (N := 3) ?hd (cs := #[.int .i64 a1_0, .slice A1_1 l1_1.length c1_1]) (t := 25) ?hr ?_; (case hd => rfl); (case hg => rfl); (case hr => first | (go_simp; done) | (go_simp; rfl)); intro gb329 hg w20 hbox hb; have n_ : _ ∧ _ ∧ _ ∧ _ ∧ _ ∧ _ ∧ _ ∧ _ := ⟨AsM (IsS46.below (spec_l19Some.z13) hb), AsM (KeepBut.trans (HK0) (KeepBut.of_below hb g none) (.inl rfl)), AsM (below_step (spec_l19Some.z12) hb), AsM (hbox), AsM ((spec_l19Some.z5 : w.heap.size ≤ gb329)), AsM ((Nat.le_trans HW0.out (spec_l19Some.z5 : w.heap.size ≤ gb329) : w0.heap.size ≤ gb329)), AsM ((spec_l19Some.z8 : g ≠ gb329)), AsM ((spec_l19Some.z9 : gb329 ≠ g))⟩; clear HI0 HK HB; obtain ⟨HI0, HK, HB, BK329, GW329, GE329, NB0_329, NB329_0⟩ := n_; clear hb hbox hg) | ((with_reducible refine gate_dst (N := 4) rfl ?_); refine box_event ?hg (N := 4) ?hd (cs := #[.int .i64 0, .slice none 0 0]) (t := 25) ?hr ?_; (case hd => rfl); (case hg => rfl); (case hr => first | (go_simp; done) | (go_simp; rfl)); intro gb330 hg w21 hbox hb; have n_ : _ ∧ _ ∧ _ ∧ _ ∧ _ ∧ _ ∧ _ ∧ _ ∧ _ ∧ _ ∧ _ := ⟨AsM (IsS46.below (spec_l19Some.z10) hb), AsM (blk_below (BD BK329) hb), AsM (KeepBut.trans (spec_l19Some.z1) (KeepBut.of_below hb g none) (.inl rfl)), AsM (below_step (spec_l19Some.z11) hb), AsM (hbox), AsM ((spec_l19Some.z2 : w.heap.size ≤ gb330)), AsM ((Nat.le_trans HW0.out (spec_l19Some.z2 : w.heap.size ≤ gb330) : w0.heap.size ≤ gb330)), AsM ((spec_l19Some.z14 : gb329 ≠ gb330)), AsM ((spec_l19Some.z15 : gb330 ≠ gb329)), AsM ((spec_l19Some.z6 : g ≠ gb330)), AsM ((spec_l19Some.z7 : gb330 ≠ g))⟩; clear HI0 BK329 HK HB; obtain ⟨HI0, BK329, HK, HB, BK330, GW330, GE330, NB329_330, NB330_329, NB0_330, NB330_0⟩ := n_; clear hb hbox hg) | ((with_reducible refine gate_callee (f := 30) rfl ?_); refine goesL_ (some 6) rfl rfl Try.func30 (by kernel_rfl) rfl #[.pointer (some ⟨g, 0, none⟩), .int .i64 7] rfl AQ ?_; (with_reducible refine (spec_l01Below.calls g s0_0 s0_1 s0_2 7 t331 t332 t333 w0 _ ?side1 ?side2 A3.out).mono ?_); (case side1 => repeat (first | (with_reducible first | exact HI0.out | apply IsS46.alloc | apply IsS46.drewN | apply IsS46.drew | apply IsS46.set_1 | apply IsS46.set_2 | refine IsS46.far ?_ NB0_329.out _ | refine IsS46.far ?_ NB0_330.out _) | exact HI0.out)); (case side2 => repeat (first | (with_reducible first | exact HB.out | apply below_alloc | apply pw_below_drewN | apply below_drew1 | refine below_set ?_ (IsS46.ge HI0.out) | refine below_set ?_ GE329.out | refine below_set ?_ GE330.out) | exact HB.out)); rintro e w22 ⟨rfl, hi, hb, hk⟩; refine ⟨_, rfl, ?_⟩; have n_ : _ ∧ _ ∧ _ ∧ _ ∧ _ := ⟨AsM (KeepBut.blk hk (g' := gb329) (o := .cells #[.int .i64 a1_0, .slice A1_1 l1_1.length c1_1] 25 (0, 0)) (BD BK329) NB329_0.out (by simp)), AsM (KeepBut.blk hk (g' := gb330) (o := .cells #[.int .i64 0, .slice none 0 0] 25 (0, 0)) (BD BK330) NB330_0.out (by simp)), AsM (KeepBut.trans (spec_l19Some.z0) hk (.inl rfl)), AsM (hb), AsM (hi)⟩; clear BK329 BK330 HK HB HI0; obtain ⟨BK329, BK330, HK, HB, HI0⟩ := n_; (try clear hb); (try clear hb2); (try clear hk); (try clear hi)))
   have n_ : _ ∧ _ ∧ _ ∧ _ ∧ _ := ⟨AsM (blk_drew BK329.out), AsM (blk_drew BK330.out), AsM (IsS46.drew HI0.out), AsM (keep_drew HK.out), AsM (below_drew1 HB.out)⟩
   clear BK329 BK330 HI0 HK HB
   obtain ⟨BK329, BK330, HI0, HK, HB⟩ := n_
   refine start_ (n := 10) (S := fun w' => w'.cell? ⟨gb329, 0, none⟩ = some (.int .i64 a1_0) ∧ w'.cell? ⟨gb329, 1, none⟩ = some (.slice A1_1 l1_1.length c1_1)) (ds := [9]) #[false, false, false, false, false, false, false, false, false, false] (by kernel_rfl) rfl rfl ⟨(blk_cell BK329.out 0).trans rfl, (blk_cell BK329.out 1).trans rfl⟩ (fun hHeld => ?_); refine with_tabW spec_l19Some.tab6 spec_l19Some.bits6 (fun HT_ HW_ => ?_)
   generalize w22.drew = w23 at BK329 BK330 HI0 HK HB hHeld ⊢
   refine PU (i := 1) (N := some 25) #[false, true, false, false, false, false, false, false, false, false] rfl rfl HT_ ?_
   refine PU (i := 2) (N := some 26) #[false, true, true, false, false, false, false, false, false, false] rfl rfl HT_ ?_
   refine PT (i := 0) (N := some 24) (tf 3 7) rfl rfl HT_ HW_ hHeld ?_
   refine PT (i := 3) (N := some 27) (tf 4 6) rfl rfl HT_ HW_ hHeld ?_
   refine one_ (i := 4) (N := some 28) (tf 5 5) rfl rfl (one_of HT_.out (by kernel_rfl)) (by decide) (fun K hK => ?_)
   refine goes_ Try.func30 (by kernel_rfl) rfl #[.pointer (some ⟨g, 0, none⟩), .int .i64 a1_0] (by rfl) rfl rfl AQ ?_
   with_reducible refine (spec_l01Below.calls g s0_0 t332 t333 a1_0 t339 t340 t341 w0 _ ?side1 ?side2 A18.out).mono ?_
   (case side1 => repeat (first | (with_reducible first | exact HI0.out | apply IsS46.alloc | apply IsS46.drewN | apply IsS46.drew | apply IsS46.set_1 | apply IsS46.set_2 | refine IsS46.far ?_ NB0_329.out _ | refine IsS46.far ?_ NB0_330.out _) | exact HI0.out))
   (case side2 => repeat (first | (with_reducible first | exact HB.out | apply below_alloc | apply pw_below_drewN | apply below_drew1 | refine below_set ?_ (IsS46.ge HI0.out) | refine below_set ?_ GE329.out | refine below_set ?_ GE330.out) | exact HB.out))
   rintro e w24 ⟨rfl, hi, hb, hk⟩
   refine ⟨_, rfl, ?_⟩
   have n_ : _ ∧ _ ∧ _ ∧ _ ∧ _ := ⟨AsM (KeepBut.blk hk (g' := gb329) (o := .cells #[.int .i64 a1_0, .slice A1_1 l1_1.length c1_1] 25 (0, 0)) (BD BK329) NB329_0.out (by simp)), AsM (KeepBut.blk hk (g' := gb330) (o := .cells #[.int .i64 0, .slice none 0 0] 25 (0, 0)) (BD BK330) NB330_0.out (by simp)), AsM (KeepBut.trans (spec_l19Some.z0) hk (.inl rfl)), AsM (hb), AsM (hi)⟩
   clear BK329 BK330 HK HB HI0
   obtain ⟨BK329, BK330, HK, HB, HI0⟩ := n_
   (try clear hb)
   (try clear hb2)
   (try clear hk)
   (try clear hi)
   refine hK.out _ _ ⟨(blk_cell BK329.out 0).trans rfl, (blk_cell BK329.out 1).trans rfl⟩ (fun hHeld => ?_)
   clear hK K
   refine NM (some 28) ?_
   refine one_ (i := 5) (N := some 29) (tf 6 4) rfl rfl (one_of HT_.out (by kernel_rfl)) (by decide) (fun K hK => ?_)
   refine goes_ Try.func61 (by kernel_rfl) rfl #[.agg #[.int .i64 a1_0, .slice A1_1 l1_1.length c1_1], .int .i64 t339] (by rfl) rfl rfl AQ ?_
   with_reducible refine (spec_Open.calls k a1_0 _ _ l1_1 t339 t342 t343 t346 _ ?side1 ?side2 A19.out).mono ?_
   (case side1 => exact Kd.C_foot_now HR1_1.out (spec_l19Some.z0))
   (case side2 => exact HC1_1.out)
   rintro e w25 ⟨v344, rfl, ho0, hb⟩
   refine ⟨_, rfl, ?_⟩
   have n_ : _ ∧ _ ∧ _ ∧ _ ∧ _ ∧ _ := ⟨AsM (Kd.R_lower ho0 (keep_size (w := w) (g := g) (row := none) (spec_l19Some.z0))), AsM (IsS46.below (spec_l19Some.z3) hb), AsM (blk_below (BD BK329) hb), AsM (blk_below (BD BK330) hb), AsM (KeepBut.trans (spec_l19Some.z0) (KeepBut.of_below hb g none) (.inl rfl)), AsM (below_step (spec_l19Some.z4) hb)⟩
   clear HI0 BK329 BK330 HK HB
   obtain ⟨HO345, HI0, BK329, BK330, HK, HB⟩ := n_
   (try clear hb)
   (try clear hb2)
   (try clear hk)
   (try clear hi)
   (try clear ho0)
   obtain ⟨Ao27, co27, eo27⟩ := Kd.R_slice HO345.out
   (first | subst eo27 | (injection eo27 with f1_ f2_ f3_; have f4_ := f1_.symm; have f5_ := f3_.symm; clear f1_ f2_ f3_; subst f4_; subst f5_))
   refine hK.out _ _ ⟨(blk_cell BK329.out 0).trans rfl, (blk_cell BK329.out 1).trans rfl⟩ (fun hHeld => ?_)
   clear hK K
   refine NM (some 29) ?_
   refine PU (i := 6) (N := some 23) (tf 7 3) rfl rfl HT_ ?_
   refine PU (i := 7) (N := some 30) (tf 8 2) rfl rfl HT_ ?_
   refine PU (i := 8) (N := some 31) (tf 9 1) rfl rfl HT_ ?_
   refine last_ (i := 9) (N := none) #[true, true, true, true, true, true, true, true, true, true] rfl rfl (one_of HT_.out (by kernel_rfl)) (by decide) (fun K hK => ?_)
   have hs26 : w25.cell? ⟨gb329, 0, none⟩ = some (.int .i64 a1_0) := (blk_cell BK329.out 0).trans rfl
   have hfs26 := blk_frozen BK329.out 0
   have hns26_1 := NB330_329.out
   have hms26_1 := NB329_330.out
   have hs28 : w25.cell? ⟨gb329, 1, none⟩ = some (.slice A1_1 l1_1.length c1_1) := (blk_cell BK329.out 1).trans rfl
   have hfs28 := blk_frozen BK329.out 1
   have hns28_1 := NB330_329.out
   have hms28_1 := NB329_330.out
   refine skip_ (w1 := ?_) (by rfl) rfl ?_ ?_
   rotate_left
   ·go_simp
    rfl
   refine hK.out _ _ ?_
   clear hK K
   refine done_ (done_of HT_.out (by kernel_rfl)) ?_
   have hnb29 := NB329_330.out
   have hnc29 := NB330_329.out
   have hnb30 := NB329_0.out
   have hnc30 := NB0_329.out
   obtain ⟨hcz31_0, hcz31_1, hfz31_0, hfz31_1⟩ := bk2 BK329.out
   have hnb32 := NB330_0.out
   have hnc32 := NB0_330.out
   obtain ⟨hcz33_0, hcz33_1, hfz33_0, hfz33_1⟩ := bk2 BK330.out
   try go_wp2
   refine bodyPost_ret (results_cell_row rfl _ _ gb330 25 #[.int .i64 t342, .slice Ao27 t343.length co27] (0, 0) _ rfl (by refine PX ?_; refine blk_put (cs := #[.int .i64 t342, .slice none 0 0]) ?_ 1 _ rfl; refine PX ?_; refine blk_put (cs := #[.int .i64 0, .slice none 0 0]) ?_ 0 _ rfl; refine PX ?_; refine blk_far ?_ NB330_329.out _; refine PX ?_; refine blk_far ?_ NB330_329.out _; exact BD BK330) Try.underlying25 rfl (by kernel_rfl)) rfl ?_
   exact ⟨_, ER, by refine PRx ?_; exact Kd.R_mono (FR (FR (Kd.R_far (p := ⟨gb329, 1, none⟩) (Kd.R_far (p := ⟨gb329, 0, none⟩) (Kd.R_types (Kd.R_types HO345.out BK329.out (by decide)) BK330.out (by decide)) (fun _ hk => hk.1.2) (.int .i64 t342)) (fun _ hk => hk.1.2) (.slice Ao27 t343.length co27)))) (fun _ hk => trivial), spec_l19Some.z3, spec_l19Some.z4, spec_l19Some.z0⟩
  ·rw [if_neg c17] at H
   have c17b0 : (t331 == 1) = false := beq_eq_false_iff_ne.mpr c17
   have c17b1 : (t331 != 1) = true := bne_iff_ne.mpr c17
   by_cases c34 : t331 = 2
   ·rw [if_pos c34] at H
    have c34b0 : (t331 == 2) = true := beq_iff_eq.mpr c34
    have c34b1 : (t331 != 2) = false := bne_eq_false_iff_eq.mpr c34
    clear c34
    replace H := BS H
    obtain ⟨⟨t347, t348, t349⟩, A350, H⟩ := H
    have A35 := Aside0.mk A350
    clear A350
    replace H := BS H
    obtain ⟨⟨t350, t351, t354⟩, A360, H⟩ := H
    have A36 := Aside0.mk A360
    clear A360
    simp only [Option.some.injEq, Prod.mk.injEq] at H
    obtain ⟨rfl, rfl, rfl, rfl⟩ := H
    go_enter Try.func42, Try.ntmps42
    try go_wp2_with (first | ((with_reducible refine gate_dst (N := 3) rfl ?_); refine box_event ?hg (N := 3) ?hd (cs := #[.int .i64 a1_0, .slice A1_1 l1_1.length c1_1]) (t := 25) ?hr ?_; (case hd => rfl); (case hg => rfl); (case hr => first | (go_simp; done) | (go_simp; rfl)); intro gb329 hg w37 hbox hb; have n_ : _ ∧ _ ∧ _ ∧ _ ∧ _ ∧ _ ∧ _ ∧ _ := ⟨AsM (IsS46.below (spec_l19Some.z13) hb), AsM (KeepBut.trans (HK0) (KeepBut.of_below hb g none) (.inl rfl)), AsM (below_step (spec_l19Some.z12) hb), AsM (hbox), AsM ((spec_l19Some.z5 : w.heap.size ≤ gb329)), AsM ((Nat.le_trans HW0.out (spec_l19Some.z5 : w.heap.size ≤ gb329) : w0.heap.size ≤ gb329)), AsM ((spec_l19Some.z8 : g ≠ gb329)), AsM ((spec_l19Some.z9 : gb329 ≠ g))⟩; clear HI0 HK HB; obtain ⟨HI0, HK, HB, BK329, GW329, GE329, NB0_329, NB329_0⟩ := n_; clear hb hbox hg) | ((with_reducible refine gate_dst (N := 4) rfl ?_); refine box_event ?hg (N := 4) ?hd (cs := #[.int .i64 0, .slice none 0 0]) (t := 25) ?hr ?_; (case hd => rfl); (case hg => rfl); (case hr => first | (go_simp; done) | (go_simp; rfl)); intro gb330 hg w38 hbox hb; have n_ : _ ∧ _ ∧ _ ∧ _ ∧ _ ∧ _ ∧ _ ∧ _ ∧ _ ∧ _ ∧ _ := ⟨AsM (IsS46.below (spec_l19Some.z10) hb), AsM (blk_below (BD BK329) hb), AsM (KeepBut.trans (spec_l19Some.z1) (KeepBut.of_below hb g none) (.inl rfl)), AsM (below_step (spec_l19Some.z11) hb), AsM (hbox), AsM ((spec_l19Some.z2 : w.heap.size ≤ gb330)), AsM ((Nat.le_trans HW0.out (spec_l19Some.z2 : w.heap.size ≤ gb330) : w0.heap.size ≤ gb330)), AsM ((spec_l19Some.z14 : gb329 ≠ gb330)), AsM ((spec_l19Some.z15 : gb330 ≠ gb329)), AsM ((spec_l19Some.z6 : g ≠ gb330)), AsM ((spec_l19Some.z7 : gb330 ≠ g))⟩; clear HI0 BK329 HK HB; obtain ⟨HI0, BK329, HK, HB, BK330, GW330, GE330, NB329_330, NB330_329, NB0_330, NB330_0⟩ := n_; clear hb hbox hg) | ((with_reducible refine gate_callee (f := 30) rfl ?_); refine goesL_ (some 6) rfl rfl Try.func30 (by kernel_rfl) rfl #[.pointer (some ⟨g, 0, none⟩), .int .i64 7] rfl AQ ?_; (with_reducible refine (spec_l01Below.calls g s0_0 s0_1 s0_2 7 t331 t332 t333 w0 _ ?side1 ?side2 A3.out).mono ?_); (case side1 => repeat (first | (with_reducible first | exact HI0.out | apply IsS46.alloc | apply IsS46.drewN | apply IsS46.drew | apply IsS46.set_1 | apply IsS46.set_2 | refine IsS46.far ?_ NB0_329.out _ | refine IsS46.far ?_ NB0_330.out _) | exact HI0.out)); (case side2 => repeat (first | (with_reducible first | exact HB.out | apply below_alloc | apply pw_below_drewN | apply below_drew1 | refine below_set ?_ (IsS46.ge HI0.out) | refine below_set ?_ GE329.out | refine below_set ?_ GE330.out) | exact HB.out)); rintro e w39 ⟨rfl, hi, hb, hk⟩; refine ⟨_, rfl, ?_⟩; have n_ : _ ∧ _ ∧ _ ∧ _ ∧ _ := ⟨AsM (KeepBut.blk hk (g' := gb329) (o := .cells #[.int .i64 a1_0, .slice A1_1 l1_1.length c1_1] 25 (0, 0)) (BD BK329) NB329_0.out (by simp)), AsM (KeepBut.blk hk (g' := gb330) (o := .cells #[.int .i64 0, .slice none 0 0] 25 (0, 0)) (BD BK330) NB330_0.out (by simp)), AsM (KeepBut.trans (spec_l19Some.z0) hk (.inl rfl)), AsM (hb), AsM (hi)⟩; clear BK329 BK330 HK HB HI0; obtain ⟨BK329, BK330, HK, HB, HI0⟩ := n_; (try clear hb); (try clear hb2); (try clear hk); (try clear hi)))
    have n_ : _ ∧ _ ∧ _ ∧ _ ∧ _ := ⟨AsM (blk_drew BK329.out), AsM (blk_drew BK330.out), AsM (IsS46.drew HI0.out), AsM (keep_drew HK.out), AsM (below_drew1 HB.out)⟩
    clear BK329 BK330 HI0 HK HB
    obtain ⟨BK329, BK330, HI0, HK, HB⟩ := n_
    refine start_ (n := 8) (S := fun w' => w'.cell? ⟨gb329, 0, none⟩ = some (.int .i64 a1_0) ∧ w'.cell? ⟨gb329, 1, none⟩ = some (.slice A1_1 l1_1.length c1_1)) (ds := [7]) #[false, false, false, false, false, false, false, false] (by kernel_rfl) rfl rfl ⟨(blk_cell BK329.out 0).trans rfl, (blk_cell BK329.out 1).trans rfl⟩ (fun hHeld => ?_); refine with_tabW spec_l19Some.tab8 spec_l19Some.bits8 (fun HT_ HW_ => ?_)
    generalize w39.drew = w40 at BK329 BK330 HI0 HK HB hHeld ⊢
    refine PU (i := 1) (N := some 36) #[false, true, false, false, false, false, false, false] rfl rfl HT_ ?_
    refine PT (i := 0) (N := some 35) (tf 2 6) rfl rfl HT_ HW_ hHeld ?_
    refine one_ (i := 2) (N := some 37) (tf 3 5) rfl rfl (one_of HT_.out (by kernel_rfl)) (by decide) (fun K hK => ?_)
    refine goes_ Try.func31 (by kernel_rfl) rfl #[.pointer (some ⟨g, 0, none⟩)] (by rfl) rfl rfl AQ ?_
    with_reducible refine (spec_l19Word.calls g s0_0 t332 t333 t347 t348 t349 w0 _ ?side1 ?side2 A35.out).mono ?_
    (case side1 => repeat (first | (with_reducible first | exact HI0.out | apply IsS46.alloc | apply IsS46.drewN | apply IsS46.drew | apply IsS46.set_1 | apply IsS46.set_2 | refine IsS46.far ?_ NB0_329.out _ | refine IsS46.far ?_ NB0_330.out _) | exact HI0.out))
    (case side2 => repeat (first | (with_reducible first | exact HB.out | apply below_alloc | apply pw_below_drewN | apply below_drew1 | refine below_set ?_ (IsS46.ge HI0.out) | refine below_set ?_ GE329.out | refine below_set ?_ GE330.out) | exact HB.out))
    rintro e w41 ⟨rfl, hi, hb, hk⟩
    refine ⟨_, rfl, ?_⟩
    have n_ : _ ∧ _ ∧ _ ∧ _ ∧ _ := ⟨AsM (KeepBut.blk hk (g' := gb329) (o := .cells #[.int .i64 a1_0, .slice A1_1 l1_1.length c1_1] 25 (0, 0)) (BD BK329) NB329_0.out (by simp)), AsM (KeepBut.blk hk (g' := gb330) (o := .cells #[.int .i64 0, .slice none 0 0] 25 (0, 0)) (BD BK330) NB330_0.out (by simp)), AsM (KeepBut.trans (spec_l19Some.z0) hk (.inl rfl)), AsM (hb), AsM (hi)⟩
    clear BK329 BK330 HK HB HI0
    obtain ⟨BK329, BK330, HK, HB, HI0⟩ := n_
    (try clear hb)
    (try clear hb2)
    (try clear hk)
    (try clear hi)
    refine hK.out _ _ ⟨(blk_cell BK329.out 0).trans rfl, (blk_cell BK329.out 1).trans rfl⟩ (fun hHeld => ?_)
    clear hK K
    refine NM (some 37) ?_
    refine one_ (i := 3) (N := some 38) (tf 4 4) rfl rfl (one_of HT_.out (by kernel_rfl)) (by decide) (fun K hK => ?_)
    refine goes_ Try.func62 (by kernel_rfl) rfl #[.agg #[.int .i64 a1_0, .slice A1_1 l1_1.length c1_1], .string t347] (by rfl) rfl rfl AQ ?_
    with_reducible refine (spec_Del.calls k a1_0 _ _ l1_1 t347 t350 t351 t354 _ ?side1 ?side2 A36.out).mono ?_
    (case side1 => exact Kd.C_foot_now HR1_1.out (spec_l19Some.z0))
    (case side2 => exact HC1_1.out)
    rintro e w42 ⟨v352, rfl, ho0, hb⟩
    refine ⟨_, rfl, ?_⟩
    have n_ : _ ∧ _ ∧ _ ∧ _ ∧ _ ∧ _ := ⟨AsM (Kd.R_lower ho0 (keep_size (w := w) (g := g) (row := none) (spec_l19Some.z0))), AsM (IsS46.below (spec_l19Some.z3) hb), AsM (blk_below (BD BK329) hb), AsM (blk_below (BD BK330) hb), AsM (KeepBut.trans (spec_l19Some.z0) (KeepBut.of_below hb g none) (.inl rfl)), AsM (below_step (spec_l19Some.z4) hb)⟩
    clear HI0 BK329 BK330 HK HB
    obtain ⟨HO353, HI0, BK329, BK330, HK, HB⟩ := n_
    (try clear hb)
    (try clear hb2)
    (try clear hk)
    (try clear hi)
    (try clear ho0)
    obtain ⟨Ao44, co44, eo44⟩ := Kd.R_slice HO353.out
    (first | subst eo44 | (injection eo44 with f1_ f2_ f3_; have f4_ := f1_.symm; have f5_ := f3_.symm; clear f1_ f2_ f3_; subst f4_; subst f5_))
    refine hK.out _ _ ⟨(blk_cell BK329.out 0).trans rfl, (blk_cell BK329.out 1).trans rfl⟩ (fun hHeld => ?_)
    clear hK K
    refine NM (some 38) ?_
    refine PU (i := 4) (N := some 34) (tf 5 3) rfl rfl HT_ ?_
    refine PU (i := 5) (N := some 39) (tf 6 2) rfl rfl HT_ ?_
    refine PU (i := 6) (N := some 40) (tf 7 1) rfl rfl HT_ ?_
    refine last_ (i := 7) (N := none) #[true, true, true, true, true, true, true, true] rfl rfl (one_of HT_.out (by kernel_rfl)) (by decide) (fun K hK => ?_)
    have hs43 : w42.cell? ⟨gb329, 0, none⟩ = some (.int .i64 a1_0) := (blk_cell BK329.out 0).trans rfl
    have hfs43 := blk_frozen BK329.out 0
    have hns43_1 := NB330_329.out
    have hms43_1 := NB329_330.out
    have hs45 : w42.cell? ⟨gb329, 1, none⟩ = some (.slice A1_1 l1_1.length c1_1) := (blk_cell BK329.out 1).trans rfl
    have hfs45 := blk_frozen BK329.out 1
    have hns45_1 := NB330_329.out
    have hms45_1 := NB329_330.out
    refine skip_ (w1 := ?_) (by rfl) rfl ?_ ?_
    rotate_left
    ·go_simp
     rfl
    refine hK.out _ _ ?_
    clear hK K
    refine done_ (done_of HT_.out (by kernel_rfl)) ?_
    have hnb46 := NB329_330.out
    have hnc46 := NB330_329.out
    have hnb47 := NB329_0.out
    have hnc47 := NB0_329.out
    obtain ⟨hcz48_0, hcz48_1, hfz48_0, hfz48_1⟩ := bk2 BK329.out
    have hnb49 := NB330_0.out
    have hnc49 := NB0_330.out
    obtain ⟨hcz50_0, hcz50_1, hfz50_0, hfz50_1⟩ := bk2 BK330.out
    try go_wp2
    refine bodyPost_ret (results_cell_row rfl _ _ gb330 25 #[.int .i64 t350, .slice Ao44 t351.length co44] (0, 0) _ rfl (by refine PX ?_; refine blk_put (cs := #[.int .i64 t350, .slice none 0 0]) ?_ 1 _ rfl; refine PX ?_; refine blk_put (cs := #[.int .i64 0, .slice none 0 0]) ?_ 0 _ rfl; refine PX ?_; refine blk_far ?_ NB330_329.out _; refine PX ?_; refine blk_far ?_ NB330_329.out _; exact BD BK330) Try.underlying25 rfl (by kernel_rfl)) rfl ?_
    exact ⟨_, ER, by refine PRx ?_; exact Kd.R_mono (FR (FR (Kd.R_far (p := ⟨gb329, 1, none⟩) (Kd.R_far (p := ⟨gb329, 0, none⟩) (Kd.R_types (Kd.R_types HO353.out BK329.out (by decide)) BK330.out (by decide)) (fun _ hk => hk.1.2) (.int .i64 t350)) (fun _ hk => hk.1.2) (.slice Ao44 t351.length co44)))) (fun _ hk => trivial), spec_l19Some.z3, spec_l19Some.z4, spec_l19Some.z0⟩
   ·rw [if_neg c34] at H
    have c34b0 : (t331 == 2) = false := beq_eq_false_iff_ne.mpr c34
    have c34b1 : (t331 != 2) = true := bne_iff_ne.mpr c34
    replace H := BS H
    obtain ⟨⟨t355, t356, t357⟩, A510, H⟩ := H
    have A51 := Aside0.mk A510
    clear A510
    replace H := BS H
    obtain ⟨⟨t358, t359, t362⟩, A520, H⟩ := H
    have A52 := Aside0.mk A520
    clear A520
    simp only [Option.some.injEq, Prod.mk.injEq] at H
    obtain ⟨rfl, rfl, rfl, rfl⟩ := H
    go_enter Try.func42, Try.ntmps42
    try go_wp2_with (first | ((with_reducible refine gate_dst (N := 3) rfl ?_); refine box_event ?hg (N := 3) ?hd (cs := #[.int .i64 a1_0, .slice A1_1 l1_1.length c1_1]) (t := 25) ?hr ?_; (case hd => rfl); (case hg => rfl); (case hr => first | (go_simp; done) | (go_simp; rfl)); intro gb329 hg w53 hbox hb; have n_ : _ ∧ _ ∧ _ ∧ _ ∧ _ ∧ _ ∧ _ ∧ _ := ⟨AsM (IsS46.below (spec_l19Some.z13) hb), AsM (KeepBut.trans (HK0) (KeepBut.of_below hb g none) (.inl rfl)), AsM (below_step (spec_l19Some.z12) hb), AsM (hbox), AsM ((spec_l19Some.z5 : w.heap.size ≤ gb329)), AsM ((Nat.le_trans HW0.out (spec_l19Some.z5 : w.heap.size ≤ gb329) : w0.heap.size ≤ gb329)), AsM ((spec_l19Some.z8 : g ≠ gb329)), AsM ((spec_l19Some.z9 : gb329 ≠ g))⟩; clear HI0 HK HB; obtain ⟨HI0, HK, HB, BK329, GW329, GE329, NB0_329, NB329_0⟩ := n_; clear hb hbox hg) | ((with_reducible refine gate_dst (N := 4) rfl ?_); refine box_event ?hg (N := 4) ?hd (cs := #[.int .i64 0, .slice none 0 0]) (t := 25) ?hr ?_; (case hd => rfl); (case hg => rfl); (case hr => first | (go_simp; done) | (go_simp; rfl)); intro gb330 hg w54 hbox hb; have n_ : _ ∧ _ ∧ _ ∧ _ ∧ _ ∧ _ ∧ _ ∧ _ ∧ _ ∧ _ ∧ _ := ⟨AsM (IsS46.below (spec_l19Some.z10) hb), AsM (blk_below (BD BK329) hb), AsM (KeepBut.trans (spec_l19Some.z1) (KeepBut.of_below hb g none) (.inl rfl)), AsM (below_step (spec_l19Some.z11) hb), AsM (hbox), AsM ((spec_l19Some.z2 : w.heap.size ≤ gb330)), AsM ((Nat.le_trans HW0.out (spec_l19Some.z2 : w.heap.size ≤ gb330) : w0.heap.size ≤ gb330)), AsM ((spec_l19Some.z14 : gb329 ≠ gb330)), AsM ((spec_l19Some.z15 : gb330 ≠ gb329)), AsM ((spec_l19Some.z6 : g ≠ gb330)), AsM ((spec_l19Some.z7 : gb330 ≠ g))⟩; clear HI0 BK329 HK HB; obtain ⟨HI0, BK329, HK, HB, BK330, GW330, GE330, NB329_330, NB330_329, NB0_330, NB330_0⟩ := n_; clear hb hbox hg) | ((with_reducible refine gate_callee (f := 30) rfl ?_); refine goesL_ (some 6) rfl rfl Try.func30 (by kernel_rfl) rfl #[.pointer (some ⟨g, 0, none⟩), .int .i64 7] rfl AQ ?_; (with_reducible refine (spec_l01Below.calls g s0_0 s0_1 s0_2 7 t331 t332 t333 w0 _ ?side1 ?side2 A3.out).mono ?_); (case side1 => repeat (first | (with_reducible first | exact HI0.out | apply IsS46.alloc | apply IsS46.drewN | apply IsS46.drew | apply IsS46.set_1 | apply IsS46.set_2 | refine IsS46.far ?_ NB0_329.out _ | refine IsS46.far ?_ NB0_330.out _) | exact HI0.out)); (case side2 => repeat (first | (with_reducible first | exact HB.out | apply below_alloc | apply pw_below_drewN | apply below_drew1 | refine below_set ?_ (IsS46.ge HI0.out) | refine below_set ?_ GE329.out | refine below_set ?_ GE330.out) | exact HB.out)); rintro e w55 ⟨rfl, hi, hb, hk⟩; refine ⟨_, rfl, ?_⟩; have n_ : _ ∧ _ ∧ _ ∧ _ ∧ _ := ⟨AsM (KeepBut.blk hk (g' := gb329) (o := .cells #[.int .i64 a1_0, .slice A1_1 l1_1.length c1_1] 25 (0, 0)) (BD BK329) NB329_0.out (by simp)), AsM (KeepBut.blk hk (g' := gb330) (o := .cells #[.int .i64 0, .slice none 0 0] 25 (0, 0)) (BD BK330) NB330_0.out (by simp)), AsM (KeepBut.trans (spec_l19Some.z0) hk (.inl rfl)), AsM (hb), AsM (hi)⟩; clear BK329 BK330 HK HB HI0; obtain ⟨BK329, BK330, HK, HB, HI0⟩ := n_; (try clear hb); (try clear hb2); (try clear hk); (try clear hi)))
    have n_ : _ ∧ _ ∧ _ ∧ _ ∧ _ := ⟨AsM (blk_drew BK329.out), AsM (blk_drew BK330.out), AsM (IsS46.drew HI0.out), AsM (keep_drew HK.out), AsM (below_drew1 HB.out)⟩
    clear BK329 BK330 HI0 HK HB
    obtain ⟨BK329, BK330, HI0, HK, HB⟩ := n_
    refine start_ (n := 8) (S := fun w' => w'.cell? ⟨gb329, 0, none⟩ = some (.int .i64 a1_0) ∧ w'.cell? ⟨gb329, 1, none⟩ = some (.slice A1_1 l1_1.length c1_1)) (ds := [7]) #[false, false, false, false, false, false, false, false] (by kernel_rfl) rfl rfl ⟨(blk_cell BK329.out 0).trans rfl, (blk_cell BK329.out 1).trans rfl⟩ (fun hHeld => ?_); refine with_tabW spec_l19Some.tab2 spec_l19Some.bits2 (fun HT_ HW_ => ?_)
    generalize w55.drew = w56 at BK329 BK330 HI0 HK HB hHeld ⊢
    refine PU (i := 1) (N := some 9) #[false, true, false, false, false, false, false, false] rfl rfl HT_ ?_
    refine PT (i := 0) (N := some 8) (tf 2 6) rfl rfl HT_ HW_ hHeld ?_
    refine one_ (i := 2) (N := some 10) (tf 3 5) rfl rfl (one_of HT_.out (by kernel_rfl)) (by decide) (fun K hK => ?_)
    refine goes_ Try.func31 (by kernel_rfl) rfl #[.pointer (some ⟨g, 0, none⟩)] (by rfl) rfl rfl AQ ?_
    with_reducible refine (spec_l19Word.calls g s0_0 t332 t333 t355 t356 t357 w0 _ ?side1 ?side2 A51.out).mono ?_
    (case side1 => repeat (first | (with_reducible first | exact HI0.out | apply IsS46.alloc | apply IsS46.drewN | apply IsS46.drew | apply IsS46.set_1 | apply IsS46.set_2 | refine IsS46.far ?_ NB0_329.out _ | refine IsS46.far ?_ NB0_330.out _) | exact HI0.out))
    (case side2 => repeat (first | (with_reducible first | exact HB.out | apply below_alloc | apply pw_below_drewN | apply below_drew1 | refine below_set ?_ (IsS46.ge HI0.out) | refine below_set ?_ GE329.out | refine below_set ?_ GE330.out) | exact HB.out))
    rintro e w57 ⟨rfl, hi, hb, hk⟩
    refine ⟨_, rfl, ?_⟩
    have n_ : _ ∧ _ ∧ _ ∧ _ ∧ _ := ⟨AsM (KeepBut.blk hk (g' := gb329) (o := .cells #[.int .i64 a1_0, .slice A1_1 l1_1.length c1_1] 25 (0, 0)) (BD BK329) NB329_0.out (by simp)), AsM (KeepBut.blk hk (g' := gb330) (o := .cells #[.int .i64 0, .slice none 0 0] 25 (0, 0)) (BD BK330) NB330_0.out (by simp)), AsM (KeepBut.trans (spec_l19Some.z0) hk (.inl rfl)), AsM (hb), AsM (hi)⟩
    clear BK329 BK330 HK HB HI0
    obtain ⟨BK329, BK330, HK, HB, HI0⟩ := n_
    (try clear hb)
    (try clear hb2)
    (try clear hk)
    (try clear hi)
    refine hK.out _ _ ⟨(blk_cell BK329.out 0).trans rfl, (blk_cell BK329.out 1).trans rfl⟩ (fun hHeld => ?_)
    clear hK K
    refine NM (some 10) ?_
    refine one_ (i := 3) (N := some 11) (tf 4 4) rfl rfl (one_of HT_.out (by kernel_rfl)) (by decide) (fun K hK => ?_)
    refine goes_ Try.func63 (by kernel_rfl) rfl #[.agg #[.int .i64 a1_0, .slice A1_1 l1_1.length c1_1], .string t355] (by rfl) rfl rfl AQ ?_
    with_reducible refine (spec_Add.calls k a1_0 _ _ l1_1 t355 t358 t359 t362 _ ?side1 ?side2 A52.out).mono ?_
    (case side1 => exact Kd.C_foot_now HR1_1.out (spec_l19Some.z0))
    (case side2 => exact HC1_1.out)
    rintro e w58 ⟨v360, rfl, ho0, hb⟩
    refine ⟨_, rfl, ?_⟩
    have n_ : _ ∧ _ ∧ _ ∧ _ ∧ _ ∧ _ := ⟨AsM (Kd.R_lower ho0 (keep_size (w := w) (g := g) (row := none) (spec_l19Some.z0))), AsM (IsS46.below (spec_l19Some.z3) hb), AsM (blk_below (BD BK329) hb), AsM (blk_below (BD BK330) hb), AsM (KeepBut.trans (spec_l19Some.z0) (KeepBut.of_below hb g none) (.inl rfl)), AsM (below_step (spec_l19Some.z4) hb)⟩
    clear HI0 BK329 BK330 HK HB
    obtain ⟨HO361, HI0, BK329, BK330, HK, HB⟩ := n_
    (try clear hb)
    (try clear hb2)
    (try clear hk)
    (try clear hi)
    (try clear ho0)
    obtain ⟨Ao60, co60, eo60⟩ := Kd.R_slice HO361.out
    (first | subst eo60 | (injection eo60 with f1_ f2_ f3_; have f4_ := f1_.symm; have f5_ := f3_.symm; clear f1_ f2_ f3_; subst f4_; subst f5_))
    refine hK.out _ _ ⟨(blk_cell BK329.out 0).trans rfl, (blk_cell BK329.out 1).trans rfl⟩ (fun hHeld => ?_)
    clear hK K
    refine NM (some 11) ?_
    refine PU (i := 4) (N := some 7) (tf 5 3) rfl rfl HT_ ?_
    refine PU (i := 5) (N := some 12) (tf 6 2) rfl rfl HT_ ?_
    refine PU (i := 6) (N := some 13) (tf 7 1) rfl rfl HT_ ?_
    refine last_ (i := 7) (N := none) #[true, true, true, true, true, true, true, true] rfl rfl (one_of HT_.out (by kernel_rfl)) (by decide) (fun K hK => ?_)
    have hs59 : w58.cell? ⟨gb329, 0, none⟩ = some (.int .i64 a1_0) := (blk_cell BK329.out 0).trans rfl
    have hfs59 := blk_frozen BK329.out 0
    have hns59_1 := NB330_329.out
    have hms59_1 := NB329_330.out
    have hs61 : w58.cell? ⟨gb329, 1, none⟩ = some (.slice A1_1 l1_1.length c1_1) := (blk_cell BK329.out 1).trans rfl
    have hfs61 := blk_frozen BK329.out 1
    have hns61_1 := NB330_329.out
    have hms61_1 := NB329_330.out
    refine skip_ (w1 := ?_) (by rfl) rfl ?_ ?_
    rotate_left
    ·go_simp
     rfl
    refine hK.out _ _ ?_
    clear hK K
    refine done_ (done_of HT_.out (by kernel_rfl)) ?_
    have hnb62 := NB329_330.out
    have hnc62 := NB330_329.out
    have hnb63 := NB329_0.out
    have hnc63 := NB0_329.out
    obtain ⟨hcz64_0, hcz64_1, hfz64_0, hfz64_1⟩ := bk2 BK329.out
    have hnb65 := NB330_0.out
    have hnc65 := NB0_330.out
    obtain ⟨hcz66_0, hcz66_1, hfz66_0, hfz66_1⟩ := bk2 BK330.out
    try go_wp2
    refine bodyPost_ret (results_cell_row rfl _ _ gb330 25 #[.int .i64 t358, .slice Ao60 t359.length co60] (0, 0) _ rfl (by refine PX ?_; refine blk_put (cs := #[.int .i64 t358, .slice none 0 0]) ?_ 1 _ rfl; refine PX ?_; refine blk_put (cs := #[.int .i64 0, .slice none 0 0]) ?_ 0 _ rfl; refine PX ?_; refine blk_far ?_ NB330_329.out _; refine PX ?_; refine blk_far ?_ NB330_329.out _; exact BD BK330) Try.underlying25 rfl (by kernel_rfl)) rfl ?_
    exact ⟨_, ER, by refine PRx ?_; exact Kd.R_mono (FR (FR (Kd.R_far (p := ⟨gb329, 1, none⟩) (Kd.R_far (p := ⟨gb329, 0, none⟩) (Kd.R_types (Kd.R_types HO361.out BK329.out (by decide)) BK330.out (by decide)) (fun _ hk => hk.1.2) (.int .i64 t358)) (fun _ hk => hk.1.2) (.slice Ao60 t359.length co60)))) (fun _ hk => trivial), spec_l19Some.z3, spec_l19Some.z4, spec_l19Some.z0⟩
def spec_l19Draw.l0 : Nat → Int → List Int → Int → Int → Int → List (S49) → Option (Int × (List (S49)) × Int × Int)
 | 0, _, _, _, _, _, _ => none
 | k + 1, x4, x1000, x1001, x1002, x369000, x369001 => if x4 > 0 then ((spec_l19Some.f k x1000 x1001 x1002 x369000 x369001).bind fun bt372 => (spec_l19Draw.l0 k (wrap64 (x4 - 1)) x1000 bt372.2.2.1 bt372.2.2.2 bt372.1 bt372.2.1)) else (some (x369000, x369001, x1001, x1002))
def spec_l19Draw.f (k : Nat) (s0_0 : List Int) (s0_1 : Int) (s0_2 : Int) : Option (Int × (List (S49)) × Int × Int) := (spec_TableNew.f k).bind fun bt364 => ((spec_l01Below.f s0_0 s0_1 s0_2 20).bind fun bt369 => (spec_l19Draw.l0 k bt369.1 s0_0 bt369.2.1 bt369.2.2 bt364.1 bt364.2))
theorem spec_l19Draw.mono_l : ∀ k, (∀ y0 y1 y2 y3 y4 y5, LeO (spec_l19Draw.l0 k y0 y1 y2 y3 y4 y5) (spec_l19Draw.l0 (k + 1) y0 y1 y2 y3 y4 y5))
 | 0 => fun _ _ _ _ _ _ r h => by simp [spec_l19Draw.l0] at h
 | k + 1 => by
  have ih0 := spec_l19Draw.mono_l k
  ·intro y0 y1 y2 y3 y4 y5
   unfold spec_l19Draw.l0
   repeat' first | (with_reducible first | exact ih0 _ _ _ _ _ _ | exact spec_TableNew.mono _ | exact spec_l19Some.mono _ _ _ _ _ _ | exact LeO.refl _ | exact LeO.none _ | refine LeO.ite ?_ ?_ | refine LeO.bind ?_ (fun _ => ?_)) | exact ih0 _ _ _ _ _ _ | exact spec_TableNew.mono _ | exact spec_l19Some.mono _ _ _ _ _ _ | exact LeO.none _ | refine LeO.ite ?_ ?_ | refine LeO.bind ?_ (fun _ => ?_)
theorem spec_l19Draw.mono : ∀ a0 a1 a2 k, LeO (spec_l19Draw.f k a0 a1 a2) (spec_l19Draw.f (k + 1) a0 a1 a2) := by
 intro a0 a1 a2 k
 have ih0 := spec_l19Draw.mono_l k
 unfold spec_l19Draw.f
 repeat' first | (with_reducible first | exact ih0 _ _ _ _ _ _ | exact spec_TableNew.mono _ | exact spec_l19Some.mono _ _ _ _ _ _ | exact LeO.refl _ | exact LeO.none _ | refine LeO.ite ?_ ?_ | refine LeO.bind ?_ (fun _ => ?_)) | exact ih0 _ _ _ _ _ _ | exact spec_TableNew.mono _ | exact spec_l19Some.mono _ _ _ _ _ _ | exact LeO.none _ | refine LeO.ite ?_ ?_ | refine LeO.bind ?_ (fun _ => ?_)
theorem spec_l19Draw.z0 {P : Prop} (h : P := by repeat (first | (with_reducible first | exact HK.out | apply KeepBut.set_ | apply keep_drewN | apply keep_drew | apply keep_alloc | refine keep_far ?_ GW363.out _ | refine keep_far ?_ GW368.out _) | exact HK.out)) : P := h
theorem spec_l19Draw.z1 {P : Prop} (h : P := by repeat (first | (with_reducible first | exact HK.out | apply KeepBut.set_ | apply keep_drewN | apply keep_drew | apply keep_alloc | refine keep_far ?_ GW363.out _) | exact HK.out)) : P := h
theorem spec_l19Draw.z2 {P : Prop} (h : P := by repeat (first | (with_reducible first | exact HI0.out | apply IsS46.alloc | apply IsS46.drewN | apply IsS46.drew | apply IsS46.set_1 | apply IsS46.set_2 | refine IsS46.far ?_ NB0_363.out _ | refine IsS46.far ?_ NB0_368.out _) | exact HI0.out)) : P := h
theorem spec_l19Draw.z3 {P : Prop} (h : P := by repeat (first | (with_reducible first | exact HB.out | apply below_alloc | apply pw_below_drewN | apply below_drew1 | refine below_set ?_ (IsS46.ge HI0.out) | refine below_set ?_ GE363.out | refine below_set ?_ GE368.out) | exact HB.out)) : P := h
set_option maxHeartbeats 8000000 in
set_option maxRecDepth 100000 in
theorem spec_l19Draw.calls (k : Nat) (g : Nat) (s0_0 : List Int) (s0_1 : Int) (s0_2 : Int) (r1 : Int) (r2 : List (S49)) (r3 : Int) (r4 : Int) (w0 w : World) (hI : IsS46 w0 w g s0_0 s0_1 s0_2) (hB : Below w0.heap.size w0 w) (h : spec_l19Draw.f k s0_0 s0_1 s0_2 = some (r1, r2, r3, r4)) :
  Calls Try.prog 22 #[.pointer (some ⟨g, 0, none⟩)] w fun e w' => ∃ v1_ : Value, e = .returned (.agg #[.int .i64 r1, v1_]) ∧ Kd.R k49 49 w' w.heap.size (fun _ => True) v1_ r2 ∧ IsS46 w0 w' g s0_0 r3 r4 ∧ Below w0.heap.size w0 w' ∧ KeepBut w w' g none := by
 have hu25 := Try.underlying25
 have HI0 := Aside0.mk hI
 have HK := Aside0.mk (KeepBut.refl w g none)
 have HL := Aside0.mk hB.size
 clear hI
 have HW0 := Aside0.mk hB.size
 have HB := Aside0.mk hB
 clear hB
 have H : ((spec_TableNew.f k).bind fun bt364 => ((spec_l01Below.f s0_0 s0_1 s0_2 20).bind fun bt369 => (spec_l19Draw.l0 k bt369.1 s0_0 bt369.2.1 bt369.2.2 bt364.1 bt364.2))) = some (r1, r2, r3, r4) := h
 clear h
 replace H := BS H
 obtain ⟨⟨t364, t365⟩, A20, H⟩ := H
 have A2 := Aside0.mk A20
 clear A20
 replace H := BS H
 obtain ⟨⟨t369, t370, t371⟩, A30, H⟩ := H
 have A3 := Aside0.mk A30
 clear A30
 have H' := Aside0.mk H
 clear H
 go_enter Try.func22, Try.ntmps22
 go_wp2_with (first | ((with_reducible refine gate_dst (N := 2) rfl ?_); refine box_event ?hg (N := 2) ?hd (cs := #[.int .i64 0, .slice none 0 0]) (t := 25) ?hr ?_; (case hd => rfl); (case hg => rfl); (case hr => first | (go_simp; done) | (go_simp; rfl)); intro gb363 hg w4 hbox hb; have n_ : _ ∧ _ ∧ _ ∧ _ ∧ _ ∧ _ ∧ _ ∧ _ := ⟨AsM (IsS46.below (by repeat (first | (with_reducible first | exact HI0.out | apply IsS46.alloc | apply IsS46.drewN | apply IsS46.drew | apply IsS46.set_1 | apply IsS46.set_2) | exact HI0.out)) hb), AsM (KeepBut.trans (HK0) (KeepBut.of_below hb g none) (.inl rfl)), AsM (below_step (by repeat (first | (with_reducible first | exact HB.out | apply below_alloc | apply pw_below_drewN | apply below_drew1 | refine below_set ?_ (IsS46.ge HI0.out)) | exact HB.out)) hb), AsM (hbox), AsM ((by rw [hg]; exact (keep_size (w := w) (g := g) (row := none) (HK0)) : w.heap.size ≤ gb363)), AsM ((Nat.le_trans HW0.out (by rw [hg]; exact (keep_size (w := w) (g := g) (row := none) (HK0)) : w.heap.size ≤ gb363) : w0.heap.size ≤ gb363)), AsM ((by rw [hg]; exact Nat.ne_of_lt (IsS46.lt (show IsS46 w0 _ g s0_0 s0_1 s0_2 from by repeat (first | (with_reducible first | exact HI0.out | apply IsS46.alloc | apply IsS46.drewN | apply IsS46.drew | apply IsS46.set_1 | apply IsS46.set_2) | exact HI0.out))) : g ≠ gb363)), AsM ((by rw [hg]; exact Nat.ne_of_gt (IsS46.lt (show IsS46 w0 _ g s0_0 s0_1 s0_2 from by repeat (first | (with_reducible first | exact HI0.out | apply IsS46.alloc | apply IsS46.drewN | apply IsS46.drew | apply IsS46.set_1 | apply IsS46.set_2) | exact HI0.out))) : gb363 ≠ g))⟩; clear HI0 HK HB; obtain ⟨HI0, HK, HB, BK363, GW363, GE363, NB0_363, NB363_0⟩ := n_; clear hb hbox hg) | ((with_reducible refine gate_callee (f := 41) rfl ?_); refine goesL_ (some 5) rfl rfl Try.func41 (by kernel_rfl) rfl #[] rfl AQ ?_; (with_reducible refine (spec_TableNew.calls k  t364 t365 _ A2.out).mono ?_); rintro e w5 ⟨v366, rfl, ho0, hb⟩; refine ⟨_, rfl, ?_⟩; have n_ : _ ∧ _ ∧ _ ∧ _ ∧ _ := ⟨AsM (Kd.R_lower ho0 (keep_size (w := w) (g := g) (row := none) (spec_l19Draw.z1))), AsM (IsS46.below (by repeat (first | (with_reducible first | exact HI0.out | apply IsS46.alloc | apply IsS46.drewN | apply IsS46.drew | apply IsS46.set_1 | apply IsS46.set_2 | refine IsS46.far ?_ NB0_363.out _) | exact HI0.out)) hb), AsM (blk_below (BD BK363) hb), AsM (KeepBut.trans (spec_l19Draw.z1) (KeepBut.of_below hb g none) (.inl rfl)), AsM (below_step (by repeat (first | (with_reducible first | exact HB.out | apply below_alloc | apply pw_below_drewN | apply below_drew1 | refine below_set ?_ (IsS46.ge HI0.out) | refine below_set ?_ GE363.out) | exact HB.out)) hb)⟩; clear HI0 BK363 HK HB; obtain ⟨HO367, HI0, BK363, HK, HB⟩ := n_; (try clear hb); (try clear hb2); (try clear hk); (try clear hi); (try clear ho0)) | ((with_reducible refine gate_dst (N := 3) rfl ?_); refine box_event ?hg (N := 3) ?hd (cs := #[.int .i64 0, .slice none 0 0]) (t := 25) ?hr ?_; (case hd => rfl); (case hg => rfl); (case hr => first | (go_simp; done) | (go_simp; rfl)); intro gb368 hg w6 hbox hb; have n_ : _ ∧ _ ∧ _ ∧ _ ∧ _ ∧ _ ∧ _ ∧ _ ∧ _ ∧ _ ∧ _ ∧ _ := ⟨AsM (Kd.R_below (RD HO367) hb), AsM (IsS46.below (by repeat (first | (with_reducible first | exact HI0.out | apply IsS46.alloc | apply IsS46.drewN | apply IsS46.drew | apply IsS46.set_1 | apply IsS46.set_2 | refine IsS46.far ?_ NB0_363.out _) | exact HI0.out)) hb), AsM (blk_below (BD BK363) hb), AsM (KeepBut.trans (spec_l19Draw.z1) (KeepBut.of_below hb g none) (.inl rfl)), AsM (below_step (by repeat (first | (with_reducible first | exact HB.out | apply below_alloc | apply pw_below_drewN | apply below_drew1 | refine below_set ?_ (IsS46.ge HI0.out) | refine below_set ?_ GE363.out) | exact HB.out)) hb), AsM (hbox), AsM ((by rw [hg]; exact (keep_size (w := w) (g := g) (row := none) (spec_l19Draw.z1)) : w.heap.size ≤ gb368)), AsM ((Nat.le_trans HW0.out (by rw [hg]; exact (keep_size (w := w) (g := g) (row := none) (spec_l19Draw.z1)) : w.heap.size ≤ gb368) : w0.heap.size ≤ gb368)), AsM ((by rw [hg]; exact Nat.ne_of_lt (blk_lt (BD BK363)) : gb363 ≠ gb368)), AsM ((by rw [hg]; exact Nat.ne_of_gt (blk_lt (BD BK363)) : gb368 ≠ gb363)), AsM ((by rw [hg]; exact Nat.ne_of_lt (IsS46.lt (show IsS46 w0 _ g s0_0 s0_1 s0_2 from by repeat (first | (with_reducible first | exact HI0.out | apply IsS46.alloc | apply IsS46.drewN | apply IsS46.drew | apply IsS46.set_1 | apply IsS46.set_2 | refine IsS46.far ?_ NB0_363.out _) | exact HI0.out))) : g ≠ gb368)), AsM ((by rw [hg]; exact Nat.ne_of_gt (IsS46.lt (show IsS46 w0 _ g s0_0 s0_1 s0_2 from by repeat (first | (with_reducible first | exact HI0.out | apply IsS46.alloc | apply IsS46.drewN | apply IsS46.drew | apply IsS46.set_1 | apply IsS46.set_2 | refine IsS46.far ?_ NB0_363.out _) | exact HI0.out))) : gb368 ≠ g))⟩; clear HO367 HI0 BK363 HK HB; obtain ⟨HO367, HI0, BK363, HK, HB, BK368, GW368, GE368, NB363_368, NB368_363, NB0_368, NB368_0⟩ := n_; clear hb hbox hg; have hnb7 := NB368_363.out; have hnc7 := NB363_368.out; have hnb8 := NB368_0.out; have hnc8 := NB0_368.out; obtain ⟨hcz9_0, hcz9_1, hfz9_0, hfz9_1⟩ := bk2 BK368.out; obtain ⟨Ao10, co10, eo10⟩ := Kd.R_slice HO367.out; subst eo10) | ((with_reducible refine gate_callee (f := 30) rfl ?_); refine goesL_ (some 7) rfl rfl Try.func30 (by kernel_rfl) rfl #[.pointer (some ⟨g, 0, none⟩), .int .i64 20] rfl AQ ?_; (with_reducible refine (spec_l01Below.calls g s0_0 s0_1 s0_2 20 t369 t370 t371 w0 _ ?side1 ?side2 A3.out).mono ?_); (case side1 => repeat (first | (with_reducible first | exact HI0.out | apply IsS46.alloc | apply IsS46.drewN | apply IsS46.drew | apply IsS46.set_1 | apply IsS46.set_2 | refine IsS46.far ?_ NB0_363.out _ | refine IsS46.far ?_ NB0_368.out _) | exact HI0.out)); (case side2 => repeat (first | (with_reducible first | exact HB.out | apply below_alloc | apply pw_below_drewN | apply below_drew1 | refine below_set ?_ (IsS46.ge HI0.out) | refine below_set ?_ GE363.out | refine below_set ?_ GE368.out) | exact HB.out)); rintro e w11 ⟨rfl, hi, hb, hk⟩; refine ⟨_, rfl, ?_⟩; have n_ : _ ∧ _ ∧ _ ∧ _ ∧ _ ∧ _ := ⟨AsM (KeepBut.blk hk (g' := gb363) (o := .cells #[.int .i64 0, .slice none 0 0] 25 (0, 0)) (by refine PX ?_; refine blk_far ?_ NB363_368.out _; refine PX ?_; refine blk_far ?_ NB363_368.out _; exact BD BK363) NB363_0.out (by simp)), AsM (Kd.R_mono (Kd.R_keep (IsS46.apart (show IsS46 w0 _ g s0_0 s0_1 s0_2 from by repeat (first | (with_reducible first | exact HI0.out | apply IsS46.alloc | apply IsS46.drewN | apply IsS46.drew | apply IsS46.set_1 | apply IsS46.set_2 | refine IsS46.far ?_ NB0_363.out _ | refine IsS46.far ?_ NB0_368.out _) | exact HI0.out)) (by refine PRx ?_; exact (FM (FR (FR (Kd.R_types HO367.out BK368.out (by decide)))))) (by decide)) hk (fun _ h => h.2)) (fun _ h => h.1)), AsM (KeepBut.blk hk (g' := gb368) (o := .cells #[.int .i64 t364, .slice Ao10 t365.length co10] 25 (0, 0)) (by refine PX ?_; refine blk_put (cs := #[.int .i64 t364, .slice none 0 0]) ?_ 1 _ rfl; refine PX ?_; refine blk_put (cs := #[.int .i64 0, .slice none 0 0]) ?_ 0 _ rfl; exact BD BK368) NB368_0.out (by simp)), AsM (KeepBut.trans (spec_l19Draw.z0) hk (.inl rfl)), AsM (hb), AsM (hi)⟩; clear BK363 HO367 BK368 HK HB HI0; obtain ⟨BK363, HO367, BK368, HK, HB, HI0⟩ := n_; (try clear hb); (try clear hb2); (try clear hk); (try clear hi)))
 go_loopg [4] k (fun kq v4 w' => ∃ (x4_1 : Int) (x1001_1 : Int) (x1002_1 : Int) (x369000_1 : Int) (x369001_1 : List (S49)) (u369001 : Value), v4 = .int .i64 x4_1 ∧ Aside0 (spec_l19Draw.l0 kq x4_1 s0_0 x1001_1 x1002_1 x369000_1 x369001_1 = some (r1, r2, r3, r4)) ∧ Aside0 (kq ≤ k) ∧ Aside0 (Kd.R k49 49 w' w.heap.size (fun _ => True) u369001 x369001_1) ∧ Aside0 (w'.heap[gb363]? = some (.cells #[.int .i64 0, (.slice none 0 0)] 25 (0, 0))) ∧ Aside0 (w'.heap[gb368]? = some (.cells #[.int .i64 x369000_1, u369001] 25 (0, 0))) ∧ Aside0 (IsS46 w0 w' g s0_0 x1001_1 x1002_1) ∧ Aside0 (KeepBut w w' g none) ∧ Aside0 (Below w0.heap.size w0 w'))
 case atStart => exact ⟨(t369), (t370), (t371), (t364), (t365), (.slice Ao10 t365.length co10), RS, H', ⟨Nat.le_refl _⟩, ⟨RD HO367⟩, ⟨BD BK363⟩, ⟨BD BK368⟩, ⟨spec_l19Draw.z2⟩, ⟨spec_l19Draw.z0⟩, ⟨spec_l19Draw.z3⟩⟩
 case round =>
  clear H'
  try clear c2
  try clear p2
  try clear c3
  try clear c4
  try clear c7
  try clear c8
  try clear hcz9_0
  try clear hcz9_1
  try clear hfz9_0
  try clear hfz9_1
  obtain ⟨x4_1, x1001_1, x1002_1, x369000_1, x369001_1, u369001, rfl, HA, HK1, HO_369001, BK363, BK368, HI0, HK, HB⟩ := hrel
  cases gk with
  | zero => exact absurd HA.out (by simp [spec_l19Draw.l0])
  | succ k1 =>
   have H := HA.out
   clear HA
   simp only [spec_l19Draw.l0] at H
   by_cases c12 : x4_1 > 0
   ·rw [if_pos c12] at H
    have c12b0 : decide (0 < x4_1) = true := decide_eq_true c12
    clear c12
    replace H := BS H
    obtain ⟨⟨t372, t373, t376, t377⟩, A130, H⟩ := H
    have A13 := Aside0.mk A130
    clear A130
    have H' := Aside0.mk H
    clear H
    have hnb14 := NB368_363.out
    have hnc14 := NB363_368.out
    have hnb15 := NB368_0.out
    have hnc15 := NB0_368.out
    obtain ⟨hcz16_0, hcz16_1, hfz16_0, hfz16_1⟩ := bk2 BK368.out
    obtain ⟨Ao17, co17, eo17⟩ := Kd.R_slice HO_369001.out
    subst eo17
    go_wp2_with (first | ((with_reducible refine gate_callee (f := 42) rfl ?_); refine goesL_ (some 14) rfl rfl Try.func42 (by kernel_rfl) rfl #[.pointer (some ⟨g, 0, none⟩), .agg #[.int .i64 x369000_1, .slice Ao17 x369001_1.length co17]] rfl AQ ?_; (with_reducible refine (spec_l19Some.calls k1 g s0_0 x1001_1 x1002_1 x369000_1 _ _ x369001_1 t372 t373 t376 t377 w0 _ ?side1 ?side2 ?side3 ?side4 A13.out).mono ?_); (case side1 => repeat (first | (with_reducible first | exact HI0.out | apply IsS46.alloc | apply IsS46.drewN | apply IsS46.drew | apply IsS46.set_1 | apply IsS46.set_2 | refine IsS46.far ?_ NB0_363.out _ | refine IsS46.far ?_ NB0_368.out _) | exact HI0.out)); (case side2 => repeat (first | (with_reducible first | exact HB.out | apply below_alloc | apply pw_below_drewN | apply below_drew1 | refine below_set ?_ (IsS46.ge HI0.out) | refine below_set ?_ GE363.out | refine below_set ?_ GE368.out) | exact HB.out)); (case side3 => exact Kd.C_foot_own (IsS46.apart (show IsS46 w0 _ g s0_0 x1001_1 x1002_1 from by repeat (first | (with_reducible first | exact HI0.out | apply IsS46.alloc | apply IsS46.drewN | apply IsS46.drew | apply IsS46.set_1 | apply IsS46.set_2 | refine IsS46.far ?_ NB0_363.out _ | refine IsS46.far ?_ NB0_368.out _) | exact HI0.out)) (RD HO_369001) (by decide)) (fun _ h_ => h_.2)); (case side4 => exact (Kd.R_reads' HO_369001.out).2.1); rintro e w18 ⟨v374, rfl, ho0, hi, hb, hk⟩; refine ⟨_, rfl, ?_⟩; have n_ : _ ∧ _ ∧ _ ∧ _ ∧ _ ∧ _ ∧ _ := ⟨AsM (Kd.R_mono (Kd.R_told (Kd.R_oldK (IsS46.apart (show IsS46 w0 _ g s0_0 x1001_1 x1002_1 from by repeat (first | (with_reducible first | exact HI0.out | apply IsS46.alloc | apply IsS46.drewN | apply IsS46.drew | apply IsS46.set_1 | apply IsS46.set_2 | refine IsS46.far ?_ NB0_363.out _ | refine IsS46.far ?_ NB0_368.out _) | exact HI0.out)) (RD HO_369001) (by decide)) hk) (Kd.R_base ho0)) (fun _ h_ => h_.1)), AsM (KeepBut.blk hk (g' := gb363) (o := .cells #[.int .i64 0, .slice none 0 0] 25 (0, 0)) (BD BK363) NB363_0.out (by simp)), AsM (KeepBut.blk hk (g' := gb368) (o := .cells #[.int .i64 x369000_1, .slice Ao17 x369001_1.length co17] 25 (0, 0)) (BD BK368) NB368_0.out (by simp)), AsM (Kd.R_lower (Kd.R_new' ho0 (Kd.R_lt (RD HO_369001))) (keep_size (w := w) (g := g) (row := none) (spec_l19Draw.z0))), AsM (KeepBut.trans (spec_l19Draw.z0) hk (.inl rfl)), AsM (hb), AsM (hi)⟩; clear HO_369001 BK363 BK368 HK HB HI0; obtain ⟨HO_369001, BK363, BK368, HO375, HK, HB, HI0⟩ := n_; (try clear hb); (try clear hb2); (try clear hk); (try clear hi); (try clear ho0); obtain ⟨hcz19_0, hcz19_1, hfz19_0, hfz19_1⟩ := bk2 BK368.out; obtain ⟨Ao20, co20, eo20⟩ := Kd.R_slice HO375.out; subst eo20))
    go_roundg k1
    case measure => have := HK1.out; omega
    case rel => exact ⟨(wrap64 (x4_1 - 1)), (t376), (t377), (t372), (t373), (.slice Ao20 t373.length co20), RS, H', ⟨by have := HK1.out; omega⟩, ⟨by refine PRx ?_; exact Kd.R_mono (FR (FR (Kd.R_types HO375.out BK368.out (by decide)))) (fun _ hk => trivial)⟩, ⟨by refine PX ?_; refine blk_far ?_ NB363_368.out _; refine PX ?_; refine blk_far ?_ NB363_368.out _; exact BD BK363⟩, ⟨by refine PX ?_; refine blk_put (cs := #[.int .i64 t372, .slice Ao17 x369001_1.length co17]) ?_ 1 _ rfl; refine PX ?_; refine blk_put (cs := #[.int .i64 x369000_1, .slice Ao17 x369001_1.length co17]) ?_ 0 _ rfl; exact BD BK368⟩, ⟨spec_l19Draw.z2⟩, ⟨spec_l19Draw.z0⟩, ⟨spec_l19Draw.z3⟩⟩
   ·rw [if_neg c12] at H
    have c12b0 : decide (0 < x4_1) = false := decide_eq_false c12
    clear c12
    simp only [Option.some.injEq, Prod.mk.injEq] at H
    obtain ⟨rfl, rfl, rfl, rfl⟩ := H
    have hnb21 := NB368_363.out
    have hnc21 := NB363_368.out
    have hnb22 := NB368_0.out
    have hnc22 := NB0_368.out
    obtain ⟨hcz23_0, hcz23_1, hfz23_0, hfz23_1⟩ := bk2 BK368.out
    have hnb24 := NB363_0.out
    have hnc24 := NB0_363.out
    obtain ⟨hcz25_0, hcz25_1, hfz25_0, hfz25_1⟩ := bk2 BK363.out
    obtain ⟨Ao26, co26, eo26⟩ := Kd.R_slice HO_369001.out
    subst eo26
    go_wp2
    refine bodyPost_ret (results_cell_row rfl _ _ gb363 25 #[.int .i64 x369000_1, .slice Ao26 x369001_1.length co26] (0, 0) _ rfl (by refine PX ?_; refine blk_put (cs := #[.int .i64 x369000_1, .slice none 0 0]) ?_ 1 _ rfl; refine PX ?_; refine blk_put (cs := #[.int .i64 0, .slice none 0 0]) ?_ 0 _ rfl; exact BD BK363) Try.underlying25 rfl (by kernel_rfl)) rfl ?_
    exact ⟨_, ER, by refine PRx ?_; exact Kd.R_mono (FR (FR (Kd.R_types HO_369001.out BK363.out (by decide)))) (fun _ hk => trivial), spec_l19Draw.z2, spec_l19Draw.z3, spec_l19Draw.z0⟩
def spec_MakeTable.f (k : Nat) (l0 : List Int) : Option (Int × (List (S49))) := (spec_l01New.f k l0).bind fun bt379 => ((spec_l19Draw.f k bt379.1 bt379.2.1 (wrap64 (bt379.2.2 + 61))).bind fun bt383 => (some (bt383.1, bt383.2.1)))
theorem spec_MakeTable.mono : ∀ a0 k, LeO (spec_MakeTable.f k a0) (spec_MakeTable.f (k + 1) a0) := by
 intro a0 k
 unfold spec_MakeTable.f
 repeat' first | (with_reducible first | exact spec_l01New.mono _ _ | exact spec_l19Draw.mono _ _ _ _ | exact LeO.refl _ | exact LeO.none _ | refine LeO.ite ?_ ?_ | refine LeO.bind ?_ (fun _ => ?_)) | exact spec_l01New.mono _ _ | exact spec_l19Draw.mono _ _ _ _ | exact LeO.none _ | refine LeO.ite ?_ ?_ | refine LeO.bind ?_ (fun _ => ?_)
theorem spec_MakeTable.z0 {P : Prop} (h : P := by repeat (first | (with_reducible first | exact HB.out | apply below_alloc | apply pw_below_drewN | apply below_drew1 | refine below_set ?_ (IsS46.ge HI382.out) | refine below_set ?_ GE378.out) | exact HB.out)) : P := h
set_option maxHeartbeats 8000000 in
set_option maxRecDepth 100000 in
theorem spec_MakeTable.calls (k : Nat) (A0 : Option Addr) (c0 : Nat) (l0 : List Int) (r1 : Int) (r2 : List (S49)) (w : World) (hr0 : Kd.C (Kd.int .u8) w A0 l0.length l0) (hc0 : l0.length ≤ c0) (h : spec_MakeTable.f k l0 = some (r1, r2)) :
  Calls Try.prog 5 #[.slice A0 l0.length c0] w fun e w' => ∃ v1_ : Value, e = .returned (.agg #[.int .i64 r1, v1_]) ∧ Kd.R k49 49 w' w.heap.size (fun _ => True) v1_ r2 ∧ Below w.heap.size w w' := by
 have hu25 := Try.underlying25
 have HR0 := Aside0.mk hr0
 have HC0 := Aside0.mk hc0
 clear hr0 hc0
 have HB := Aside0.mk (Below.refl w.heap.size w)
 have H : ((spec_l01New.f k l0).bind fun bt379 => ((spec_l19Draw.f k bt379.1 bt379.2.1 (wrap64 (bt379.2.2 + 61))).bind fun bt383 => (some (bt383.1, bt383.2.1)))) = some (r1, r2) := h
 clear h
 replace H := BS H
 obtain ⟨⟨t379, t380, t381⟩, A20, H⟩ := H
 have A2 := Aside0.mk A20
 clear A20
 replace H := BS H
 obtain ⟨⟨t383, t384, t387, t388⟩, A30, H⟩ := H
 have A3 := Aside0.mk A30
 clear A30
 simp only [Option.some.injEq, Prod.mk.injEq] at H
 obtain ⟨rfl, rfl⟩ := H
 go_enter Try.func5, Try.ntmps5
 go_wp2_with (first | ((with_reducible refine gate_dst (N := 2) rfl ?_); refine box_event ?hg (N := 2) ?hd (cs := #[.int .i64 0, .slice none 0 0]) (t := 25) ?hr ?_; (case hd => rfl); (case hg => rfl); (case hr => first | (go_simp; done) | (go_simp; rfl)); intro gb378 hg w4 hbox hb; have n_ : _ ∧ _ ∧ _ ∧ _ := ⟨AsM (below_step BL hb), AsM (hbox), AsM ((GL : w.heap.size ≤ gb378)), AsM ((GL : w.heap.size ≤ gb378))⟩; clear HB; obtain ⟨HB, BK378, GW378, GE378⟩ := n_; clear hb hbox hg) | ((with_reducible refine gate_callee (f := 21) rfl ?_); refine goesL_ (some 6) rfl rfl Try.func21 (by kernel_rfl) rfl #[.slice A0 l0.length c0] rfl AQ ?_; (with_reducible refine (spec_l01New.calls k _ _ l0 t379 t380 t381 w _ ?side1 ?side2 ?side3 A2.out).mono ?_); (case side1 => repeat (first | (with_reducible first | exact HB.out | apply below_alloc | apply pw_below_drewN | apply below_drew1 | refine below_set ?_ GE378.out) | exact HB.out)); (case side2 => exact HR0.out); (case side3 => exact HC0.out); rintro e w5 ⟨g382, rfl, hi, hb, hb2⟩; refine ⟨_, rfl, ?_⟩; have n_ : _ ∧ _ ∧ _ ∧ _ ∧ _ := ⟨AsM (blk_below (BD BK378) hb2), AsM (hb), AsM (hi), AsM (IsS46.ne_blk hi (blk_below (BD BK378) hb2) (by decide)), AsM (Ne.symm (IsS46.ne_blk hi (blk_below (BD BK378) hb2) (by decide)))⟩; clear BK378 HB; obtain ⟨BK378, HB, HI382, NB382_378, NB378_382⟩ := n_; (try clear hb); (try clear hb2); (try clear hk); (try clear hi); obtain ⟨ASz6_0, cSz6_0, HGz6, hgz6, HSz6_0⟩ := HI382.out; have hcz6_0 := cellS46_0 HGz6; have hcz6_1 := cellS46_1 HGz6; have hcz6_2 := cellS46_2 HGz6; have hfz6_1 := blk_frozen HGz6 1; have hfz6_2 := blk_frozen HGz6 2; clear HGz6 hgz6) | ((with_reducible refine gate_callee (f := 22) rfl ?_); refine goesL_ (some 16) rfl rfl Try.func22 (by kernel_rfl) rfl #[.pointer (some ⟨g382, 0, none⟩)] rfl AQ ?_; (with_reducible refine (spec_l19Draw.calls k g382 t379 t380 (wrap64 (t381 + 61)) t383 t384 t387 t388 w _ ?side1 ?side2 A3.out).mono ?_); (case side1 => repeat (first | (with_reducible first | exact HI382.out | apply IsS46.alloc | apply IsS46.drewN | apply IsS46.drew | apply IsS46.set_1 | apply IsS46.set_2 | refine IsS46.far ?_ NB382_378.out _) | exact HI382.out)); (case side2 => repeat (first | (with_reducible first | exact HB.out | apply below_alloc | apply pw_below_drewN | apply below_drew1 | refine below_set ?_ (IsS46.ge HI382.out) | refine below_set ?_ GE378.out) | exact HB.out)); rintro e w7 ⟨v385, rfl, ho0, hi, hb, hk⟩; refine ⟨_, rfl, ?_⟩; have n_ : _ ∧ _ ∧ _ ∧ _ := ⟨AsM (KeepBut.blk hk (g' := gb378) (o := .cells #[.int .i64 0, .slice none 0 0] 25 (0, 0)) (by refine PX ?_; refine blk_far ?_ NB378_382.out _; exact BD BK378) NB378_382.out (by simp)), AsM (Kd.R_lower ho0 (below_size (spec_MakeTable.z0))), AsM (hb), AsM (hi)⟩; clear BK378 HB HI382; obtain ⟨BK378, HO386, HB, HI382⟩ := n_; (try clear hb); (try clear hb2); (try clear hk); (try clear hi); (try clear ho0)) | ((with_reducible refine gate_dst (N := 4) rfl ?_); refine box_event ?hg (N := 4) ?hd (cs := #[.int .i64 0, .slice none 0 0]) (t := 25) ?hr ?_; (case hd => rfl); (case hg => rfl); (case hr => first | (go_simp; done) | (go_simp; rfl)); intro gb389 hg w8 hbox hb; have n_ : _ ∧ _ ∧ _ ∧ _ ∧ _ ∧ _ ∧ _ ∧ _ ∧ _ ∧ _ ∧ _ := ⟨AsM (Kd.R_below (RD HO386) hb), AsM (blk_below (BD BK378) hb), AsM (IsS46.below (by repeat (first | (with_reducible first | exact HI382.out | apply IsS46.alloc | apply IsS46.drewN | apply IsS46.drew | apply IsS46.set_1 | apply IsS46.set_2 | refine IsS46.far ?_ NB382_378.out _) | exact HI382.out)) hb), AsM (below_step (spec_MakeTable.z0) hb), AsM (hbox), AsM ((by rw [hg]; exact (below_size (spec_MakeTable.z0)) : w.heap.size ≤ gb389)), AsM ((by rw [hg]; exact (below_size (spec_MakeTable.z0)) : w.heap.size ≤ gb389)), AsM ((by rw [hg]; exact Nat.ne_of_lt (blk_lt (BD BK378)) : gb378 ≠ gb389)), AsM ((by rw [hg]; exact Nat.ne_of_gt (blk_lt (BD BK378)) : gb389 ≠ gb378)), AsM ((by rw [hg]; exact Nat.ne_of_lt (IsS46.lt (show IsS46 w _ g382 t379 t387 t388 from by repeat (first | (with_reducible first | exact HI382.out | apply IsS46.alloc | apply IsS46.drewN | apply IsS46.drew | apply IsS46.set_1 | apply IsS46.set_2 | refine IsS46.far ?_ NB382_378.out _) | exact HI382.out))) : g382 ≠ gb389)), AsM ((by rw [hg]; exact Nat.ne_of_gt (IsS46.lt (show IsS46 w _ g382 t379 t387 t388 from by repeat (first | (with_reducible first | exact HI382.out | apply IsS46.alloc | apply IsS46.drewN | apply IsS46.drew | apply IsS46.set_1 | apply IsS46.set_2 | refine IsS46.far ?_ NB382_378.out _) | exact HI382.out))) : gb389 ≠ g382))⟩; clear HO386 BK378 HI382 HB; obtain ⟨HO386, BK378, HI382, HB, BK389, GW389, GE389, NB378_389, NB389_378, NB382_389, NB389_382⟩ := n_; clear hb hbox hg; have hnb9 := NB389_378.out; have hnc9 := NB378_389.out; have hnb10 := NB389_382.out; have hnc10 := NB382_389.out; obtain ⟨hcz11_0, hcz11_1, hfz11_0, hfz11_1⟩ := bk2 BK389.out; obtain ⟨Ao12, co12, eo12⟩ := Kd.R_slice HO386.out; subst eo12; have hnb13 := NB378_382.out; have hnc13 := NB382_378.out; obtain ⟨hcz14_0, hcz14_1, hfz14_0, hfz14_1⟩ := bk2 BK378.out))
 refine bodyPost_ret (results_cell_row rfl _ _ gb378 25 #[.int .i64 t383, .slice Ao12 t384.length co12] (0, 0) _ rfl (by refine PX ?_; refine blk_put (cs := #[.int .i64 t383, .slice none 0 0]) ?_ 1 _ rfl; refine PX ?_; refine blk_put (cs := #[.int .i64 0, .slice none 0 0]) ?_ 0 _ rfl; refine PX ?_; refine blk_far ?_ NB378_389.out _; refine PX ?_; refine blk_far ?_ NB378_389.out _; exact BD BK378) Try.underlying25 rfl (by kernel_rfl)) rfl ?_
 exact ⟨_, ER, by refine PRx ?_; exact Kd.R_mono (FR (FR (Kd.R_far (p := ⟨gb389, 1, none⟩) (Kd.R_far (p := ⟨gb389, 0, none⟩) (Kd.R_types (Kd.R_types HO386.out BK389.out (by decide)) BK378.out (by decide)) (fun _ hk => hk.1.2) (.int .i64 t383)) (fun _ hk => hk.1.2) (.slice Ao12 t384.length co12)))) (fun _ hk => trivial), by repeat (first | (with_reducible first | exact HB.out | apply below_alloc | apply pw_below_drewN | apply below_drew1 | refine below_set ?_ (IsS46.ge HI382.out) | refine below_set ?_ GE378.out | refine below_set ?_ GE389.out) | exact HB.out)⟩
def impl_Hash.l0 : Nat → ByteArray → Int → Int → Option (Int)
 | 0, _, _, _ => none
 | k + 1, x0, x3, x4 => if x4 < (x0.size : Int) then (if 0 ≤ x4 then (impl_Hash.l0 k x0 (Int.tmod (wrap64 ((Go.bits .xor .i64 x3 (wrap64 (bt x0 x4))) * 16777619)) 4294967296) (wrap64 (x4 + 1))) else (none)) else (some x3)
def impl_Hash.f (k : Nat) (a0 : ByteArray) : Option (Int) := impl_Hash.l0 k a0 2166136261 0
theorem impl_Hash.mono_l : ∀ k, (∀ y0 y1 y2, LeO (impl_Hash.l0 k y0 y1 y2) (impl_Hash.l0 (k + 1) y0 y1 y2))
 | 0 => fun _ _ _ r h => by simp [impl_Hash.l0] at h
 | k + 1 => by
  have ih0 := impl_Hash.mono_l k
  ·intro y0 y1 y2
   unfold impl_Hash.l0
   repeat' first | (with_reducible first | exact ih0 _ _ _ | exact LeO.refl _ | exact LeO.none _ | refine LeO.ite ?_ ?_ | refine LeO.bind ?_ (fun _ => ?_)) | exact ih0 _ _ _ | exact LeO.none _ | refine LeO.ite ?_ ?_ | refine LeO.bind ?_ (fun _ => ?_)
theorem impl_Hash.mono : ∀ a0 k, LeO (impl_Hash.f k a0) (impl_Hash.f (k + 1) a0) := by
 intro a0 k
 have ih0 := impl_Hash.mono_l k
 unfold impl_Hash.f
 repeat' first | (with_reducible first | exact ih0 _ _ _ | exact LeO.refl _ | exact LeO.none _ | refine LeO.ite ?_ ?_ | refine LeO.bind ?_ (fun _ => ?_)) | exact ih0 _ _ _ | exact LeO.none _ | refine LeO.ite ?_ ?_ | refine LeO.bind ?_ (fun _ => ?_)
set_option maxHeartbeats 8000000 in
set_option maxRecDepth 100000 in
theorem impl_Hash.calls (k : Nat) (a0 : ByteArray) (r : Int) (w : World) (h : impl_Hash.f k a0 = some r) :
  Calls Try.prog 19 #[.string a0] w fun e w' => e = .returned (.int .i64 r) ∧ Drawn0 w w' := by
 have H : (impl_Hash.l0 k a0 2166136261 0) = some r := h
 clear h
 have H' := Aside0.mk H
 clear H
 go_enter Try.func19, Try.ntmps19
 go_wp2
 go_loopg [3, 4] k (fun kq v3 v4 w' => ∃ (x3_1 : Int) (x4_1 : Int), v3 = .int .i64 x3_1 ∧ v4 = .int .i64 x4_1 ∧ Aside0 (impl_Hash.l0 kq a0 x3_1 x4_1 = some r) ∧ Aside0 (kq ≤ k) ∧ Drawn0 w w')
 case atStart => exact ⟨(2166136261), (0), RS, RS, H', ⟨Nat.le_refl _⟩, DR⟩
 case round =>
  clear H'
  try clear c1
  obtain ⟨x3_1, x4_1, rfl, rfl, HA, HK1, ⟨m1, rfl⟩⟩ := hrel
  cases gk with
  | zero => exact absurd HA.out (by simp [impl_Hash.l0])
  | succ k1 =>
   have H := HA.out
   clear HA
   simp only [impl_Hash.l0] at H
   by_cases c2 : x4_1 < (a0.size : Int)
   ·rw [if_pos c2] at H
    have c2b0 : decide (x4_1 < (a0.size : Int)) = true := decide_eq_true c2
    clear c2
    by_cases c3 : 0 ≤ x4_1
    ·rw [if_pos c3] at H
     have c3b0 : decide (0 ≤ x4_1) = true := decide_eq_true c3
     clear c3
     have H' := Aside0.mk H
     clear H
     have p4 : 0 ≤ (x4_1 : Int) := of_decide_eq_true AS
     have q4 : x4_1 < (a0.size : Int) := of_decide_eq_true AS
     have hx4 := bt_at a0 x4_1
     replace p4 := eq_true p4
     replace q4 := eq_true q4
     go_wp2
     go_roundg k1
     case measure => have := HK1.out; omega
     case rel => exact ⟨(Int.tmod (wrap64 ((Go.bits .xor .i64 x3_1 (wrap64 (bt a0 x4_1))) * 16777619)) 4294967296), (wrap64 (x4_1 + 1)), RS, RS, H', ⟨by have := HK1.out; omega⟩, DR⟩
    ·rw [if_neg c3] at H
     exact absurd H (by simp)
   ·rw [if_neg c2] at H
    have c2b0 : decide (x4_1 < (a0.size : Int)) = false := decide_eq_false c2
    clear c2
    obtain rfl := Option.some.inj H
    go_wp2
    go_ret
    exact ⟨by first | rfl | (simp; done) | (simp [*]; done), DR⟩
def impl_within.f (a0 : Int) (a1 : Int) (a2 : Int) : Option (Bool) := if a0 ≥ a1 then (some (decide (a0 ≤ a2))) else (some false)
set_option maxHeartbeats 8000000 in
set_option maxRecDepth 100000 in
theorem impl_within.calls (a0 : Int) (a1 : Int) (a2 : Int) (r : Bool) (w : World) (h : impl_within.f a0 a1 a2 = some r) :
  Calls Try.prog 23 #[.int .i64 a0, .int .i64 a1, .int .i64 a2] w fun e w' => e = .returned (.bool r) ∧ Drawn0 w w' := by
 have H : (if a0 ≥ a1 then (some (decide (a0 ≤ a2))) else (some false)) = some r := h
 clear h
 by_cases c4 : a0 ≥ a1
 ·rw [if_pos c4] at H
  have c4b0 : decide (a1 ≤ a0) = true := decide_eq_true c4
  clear c4
  obtain rfl := Option.some.inj H
  go_enter Try.func23, Try.ntmps23
  go_wp2
  go_ret
  exact ⟨by first | rfl | (simp; done) | (simp [*]; done), DR⟩
 ·rw [if_neg c4] at H
  have c4b0 : decide (a1 ≤ a0) = false := decide_eq_false c4
  clear c4
  obtain rfl := Option.some.inj H
  go_enter Try.func23, Try.ntmps23
  go_wp2
  go_ret
  exact ⟨by first | rfl | (simp; done) | (simp [*]; done), DR⟩
def impl_Table_keysIn.l0 : Nat → Int → List (S49) → Int → Int → Option (Int)
 | 0, _, _, _, _ => none
 | k + 1, x3, x7, x8, x9 => if x9 < x8 then (if 0 ≤ x9 then (if x9 < (x7.length : Int) then (if ((rd_T49 x7 x9).f1).toList = ([] : List UInt8) then (impl_Table_keysIn.l0 k x3 x7 x8 (wrap64 (x9 + 1))) else (impl_Table_keysIn.l0 k (wrap64 (x3 + 1)) x7 x8 (wrap64 (x9 + 1)))) else (none)) else (none)) else (some x3)
def impl_Table_keysIn.f (k : Nat) (a0_0 : Int) (l0_1 : List (S49)) : Option (Int) := impl_Table_keysIn.l0 k 0 l0_1 (l0_1.length : Int) 0
theorem impl_Table_keysIn.mono_l : ∀ k, (∀ y0 y1 y2 y3, LeO (impl_Table_keysIn.l0 k y0 y1 y2 y3) (impl_Table_keysIn.l0 (k + 1) y0 y1 y2 y3))
 | 0 => fun _ _ _ _ r h => by simp [impl_Table_keysIn.l0] at h
 | k + 1 => by
  have ih0 := impl_Table_keysIn.mono_l k
  ·intro y0 y1 y2 y3
   unfold impl_Table_keysIn.l0
   repeat' first | (with_reducible first | exact ih0 _ _ _ _ | exact LeO.refl _ | exact LeO.none _ | refine LeO.ite ?_ ?_ | refine LeO.bind ?_ (fun _ => ?_)) | exact ih0 _ _ _ _ | exact LeO.none _ | refine LeO.ite ?_ ?_ | refine LeO.bind ?_ (fun _ => ?_)
theorem impl_Table_keysIn.mono : ∀ a0 a1 k, LeO (impl_Table_keysIn.f k a0 a1) (impl_Table_keysIn.f (k + 1) a0 a1) := by
 intro a0 a1 k
 have ih0 := impl_Table_keysIn.mono_l k
 unfold impl_Table_keysIn.f
 repeat' first | (with_reducible first | exact ih0 _ _ _ _ | exact LeO.refl _ | exact LeO.none _ | refine LeO.ite ?_ ?_ | refine LeO.bind ?_ (fun _ => ?_)) | exact ih0 _ _ _ _ | exact LeO.none _ | refine LeO.ite ?_ ?_ | refine LeO.bind ?_ (fun _ => ?_)
set_option maxHeartbeats 8000000 in
set_option maxRecDepth 100000 in
theorem impl_Table_keysIn.calls (k : Nat) (a0_0 : Int) (A0_1 : Option Addr) (c0_1 : Nat) (l0_1 : List (S49)) (r : Int) (w : World) (hr0_1 : Kd.C k49 w A0_1 l0_1.length l0_1) (hc0_1 : l0_1.length ≤ c0_1) (h : impl_Table_keysIn.f k a0_0 l0_1 = some r) :
  Calls Try.prog 24 #[.agg #[.int .i64 a0_0, .slice A0_1 l0_1.length c0_1]] w fun e w' => e = .returned (.int .i64 r) ∧ Below w.heap.size w w' := by
 have hu25 := Try.underlying25
 have hu49 := Try.underlying49
 have HR0_1 := Aside0.mk hr0_1
 have HC0_1 := Aside0.mk hc0_1
 clear hr0_1 hc0_1
 have HB := Aside0.mk (Below.refl w.heap.size w)
 have H : (impl_Table_keysIn.l0 k 0 l0_1 (l0_1.length : Int) 0) = some r := h
 clear h
 have H' := Aside0.mk H
 clear H
 go_enter Try.func24, Try.ntmps24
 go_wp2_with (first | ((with_reducible refine gate_dst (N := 1) rfl ?_); refine box_event ?hg (N := 1) ?hd (cs := #[.int .i64 a0_0, .slice A0_1 l0_1.length c0_1]) (t := 25) ?hr ?_; (case hd => rfl); (case hg => rfl); (case hr => first | (go_simp; done) | (go_simp; rfl)); intro gb390 hg w2 hbox hb; have n_ : _ ∧ _ ∧ _ ∧ _ := ⟨AsM (below_step BL hb), AsM (hbox), AsM ((GL : w.heap.size ≤ gb390)), AsM ((GL : w.heap.size ≤ gb390))⟩; clear HB; obtain ⟨HB, BK390, GW390, GE390⟩ := n_; clear hb hbox hg; obtain ⟨hcz3_0, hcz3_1, hfz3_0, hfz3_1⟩ := bk2 BK390.out))
 go_loopg [3, 9] k (fun kq v3 v9 w' => ∃ (x3_1 : Int) (x9_1 : Int), v3 = .int .i64 x3_1 ∧ v9 = .int .i64 x9_1 ∧ Aside0 (impl_Table_keysIn.l0 kq x3_1 l0_1 (l0_1.length : Int) x9_1 = some r) ∧ Aside0 (kq ≤ k) ∧ Aside0 (w'.heap[gb390]? = some (.cells #[.int .i64 a0_0, (.slice A0_1 l0_1.length c0_1)] 25 (0, 0))) ∧ Aside0 (Below w.heap.size w w'))
 case atStart => exact ⟨(0), (0), RS, RS, H', ⟨Nat.le_refl _⟩, ⟨BD BK390⟩, ⟨by repeat (first | (with_reducible first | exact HB.out | apply below_alloc | apply pw_below_drewN | apply below_drew1 | refine below_set ?_ GE390.out) | exact HB.out)⟩⟩
 case round =>
  clear H'
  try clear c2
  try clear p2
  try clear hcz3_0
  try clear hcz3_1
  try clear hfz3_0
  try clear hfz3_1
  obtain ⟨x3_1, x9_1, rfl, rfl, HA, HK1, BK390, HB⟩ := hrel
  cases gk with
  | zero => exact absurd HA.out (by simp [impl_Table_keysIn.l0])
  | succ k1 =>
   have H := HA.out
   clear HA
   simp only [impl_Table_keysIn.l0] at H
   by_cases c4 : x9_1 < (l0_1.length : Int)
   ·rw [if_pos c4] at H
    have c4b0 : decide (x9_1 < (l0_1.length : Int)) = true := decide_eq_true c4
    clear c4
    by_cases c5 : 0 ≤ x9_1
    ·rw [if_pos c5] at H
     have c5b0 : decide (0 ≤ x9_1) = true := decide_eq_true c5
     clear c5
     by_cases c6 : x9_1 < (l0_1.length : Int)
     ·rw [if_pos c6] at H
      have c6b0 : decide (x9_1 < (l0_1.length : Int)) = true := decide_eq_true c6
      clear c6
      by_cases c7 : ((rd_T49 l0_1 x9_1).f1).toList = ([] : List UInt8)
      ·rw [if_pos c7] at H
       have c7b0 : (((rd_T49 l0_1 x9_1).f1).toList == ([] : List UInt8)) = true := beq_iff_eq.mpr c7
       have c7b1 : (((rd_T49 l0_1 x9_1).f1).toList != ([] : List UInt8)) = false := bne_eq_false_iff_eq.mpr c7
       clear c7
       have H' := Aside0.mk H
       clear H
       have p391 : 0 ≤ (x9_1 : Int) := of_decide_eq_true AS
       have q391 : x9_1 < (l0_1.length : Int) := of_decide_eq_true AS
       obtain ⟨ad391, e391, hx391_0, hx391_1⟩ := at_T49 HR0_1.out x9_1 p391 q391
       cases e391
       replace hx391_0 := (HB.out.cell (World.block_lt_of_cell? w _ hx391_0)).trans hx391_0
       replace hx391_1 := (HB.out.cell (World.block_lt_of_cell? w _ hx391_1)).trans hx391_1
       replace p391 := eq_true p391
       replace q391 := eq_true q391
       go_wp2_with (first | ((with_reducible refine gate_dst (N := 5) rfl ?_); refine box_event ?hg (N := 5) ?hd (cs := #[.int .i64 0, .string (⟨#[]⟩ : ByteArray)]) (t := 49) ?hr ?_; (case hd => rfl); (case hg => rfl); (case hr => first | (go_simp; done) | (go_simp; rfl)); intro gb392 hg w8 hbox hb; have n_ : _ ∧ _ ∧ _ ∧ _ ∧ _ ∧ _ ∧ _ := ⟨AsM (blk_below (BD BK390) hb), AsM (below_step BG hb), AsM (hbox), AsM ((GM : w.heap.size ≤ gb392)), AsM ((GM : w.heap.size ≤ gb392)), AsM ((by rw [hg]; exact Nat.ne_of_lt (blk_lt (BD BK390)) : gb390 ≠ gb392)), AsM ((by rw [hg]; exact Nat.ne_of_gt (blk_lt (BD BK390)) : gb392 ≠ gb390))⟩; clear BK390 HB; obtain ⟨BK390, HB, BK392, GW392, GE392, NB390_392, NB392_390⟩ := n_; clear hb hbox hg; have hnb9 := NB392_390.out; have hnc9 := NB390_392.out; obtain ⟨hcz10_0, hcz10_1, hfz10_0, hfz10_1⟩ := bk2 BK392.out))
       go_roundg k1
       case measure => have := HK1.out; omega
       case rel => exact ⟨(x3_1), (wrap64 (x9_1 + 1)), RS, RS, H', ⟨by have := HK1.out; omega⟩, ⟨by refine PX ?_; refine blk_far ?_ NB390_392.out _; refine PX ?_; refine blk_far ?_ NB390_392.out _; exact BD BK390⟩, ⟨by repeat (first | (with_reducible first | exact HB.out | apply below_alloc | apply pw_below_drewN | apply below_drew1 | refine below_set ?_ GE390.out | refine below_set ?_ GE392.out) | exact HB.out)⟩⟩
      ·rw [if_neg c7] at H
       have c7b0 : (((rd_T49 l0_1 x9_1).f1).toList == ([] : List UInt8)) = false := beq_eq_false_iff_ne.mpr c7
       have c7b1 : (((rd_T49 l0_1 x9_1).f1).toList != ([] : List UInt8)) = true := bne_iff_ne.mpr c7
       have H' := Aside0.mk H
       clear H
       have p391 : 0 ≤ (x9_1 : Int) := of_decide_eq_true AS
       have q391 : x9_1 < (l0_1.length : Int) := of_decide_eq_true AS
       obtain ⟨ad391, e391, hx391_0, hx391_1⟩ := at_T49 HR0_1.out x9_1 p391 q391
       cases e391
       replace hx391_0 := (HB.out.cell (World.block_lt_of_cell? w _ hx391_0)).trans hx391_0
       replace hx391_1 := (HB.out.cell (World.block_lt_of_cell? w _ hx391_1)).trans hx391_1
       replace p391 := eq_true p391
       replace q391 := eq_true q391
       go_wp2_with (first | ((with_reducible refine gate_dst (N := 5) rfl ?_); refine box_event ?hg (N := 5) ?hd (cs := #[.int .i64 0, .string (⟨#[]⟩ : ByteArray)]) (t := 49) ?hr ?_; (case hd => rfl); (case hg => rfl); (case hr => first | (go_simp; done) | (go_simp; rfl)); intro gb392 hg w11 hbox hb; have n_ : _ ∧ _ ∧ _ ∧ _ ∧ _ ∧ _ ∧ _ := ⟨AsM (blk_below (BD BK390) hb), AsM (below_step BG hb), AsM (hbox), AsM ((GM : w.heap.size ≤ gb392)), AsM ((GM : w.heap.size ≤ gb392)), AsM ((by rw [hg]; exact Nat.ne_of_lt (blk_lt (BD BK390)) : gb390 ≠ gb392)), AsM ((by rw [hg]; exact Nat.ne_of_gt (blk_lt (BD BK390)) : gb392 ≠ gb390))⟩; clear BK390 HB; obtain ⟨BK390, HB, BK392, GW392, GE392, NB390_392, NB392_390⟩ := n_; clear hb hbox hg; have hnb12 := NB392_390.out; have hnc12 := NB390_392.out; obtain ⟨hcz13_0, hcz13_1, hfz13_0, hfz13_1⟩ := bk2 BK392.out))
       go_roundg k1
       case measure => have := HK1.out; omega
       case rel => exact ⟨(wrap64 (x3_1 + 1)), (wrap64 (x9_1 + 1)), RS, RS, H', ⟨by have := HK1.out; omega⟩, ⟨by refine PX ?_; refine blk_far ?_ NB390_392.out _; refine PX ?_; refine blk_far ?_ NB390_392.out _; exact BD BK390⟩, ⟨by repeat (first | (with_reducible first | exact HB.out | apply below_alloc | apply pw_below_drewN | apply below_drew1 | refine below_set ?_ GE390.out | refine below_set ?_ GE392.out) | exact HB.out)⟩⟩
     ·rw [if_neg c6] at H
      exact absurd H (by simp)
    ·rw [if_neg c5] at H
     exact absurd H (by simp)
   ·rw [if_neg c4] at H
    have c4b0 : decide (x9_1 < (l0_1.length : Int)) = false := decide_eq_false c4
    clear c4
    obtain rfl := Option.some.inj H
    go_wp2
    go_ret
    exact ⟨ER, BG⟩
end Go.Proofs.Ytbjlldjkkdiblaa.G

namespace Go.Proofs.Ytbjlldjkkdiblaa.G
open Go.RowKit Go.Proofs.YtbjlldjkkdiblaaW.PrintWords Go.Proofs.YtbjlldjkkdiblaaW.PrintLast Go.Proofs.YtbjlldjkkdiblaaW.PrintMore Go.Proofs.Ytbjlldjkkdiblaa.Sh
attribute [local go_sem] max2_int min2_int max_two min_two max_three min_three max_four min_four
set_option linter.unusedVariables false
set_option linter.unusedSimpArgs false
attribute [local go_sem high] eqA49
def impl_compareEntries.j0 : Nat → Bool → Int → ByteArray → Int → ByteArray → Option (Int)
 | 0, _, _, _, _, _ => none
 | k + 1, x5, x394000, x394001, x395000, x395001 => if x5 = true then (some (-1)) else (if (x394000 == x395000 && (x394001.toList == x395001.toList)) = true then (some 0) else (some 1))
def impl_compareEntries.f (k : Nat) (a0_0 : Int) (a0_1 : ByteArray) (a1_0 : Int) (a1_1 : ByteArray) : Option (Int) := if a0_0 < a1_0 then (impl_compareEntries.j0 k true a0_0 a0_1 a1_0 a1_1) else (if a0_0 = a1_0 then (impl_compareEntries.j0 k (Op.bytesLess a0_1.toList a1_1.toList) a0_0 a0_1 a1_0 a1_1) else (impl_compareEntries.j0 k false a0_0 a0_1 a1_0 a1_1))
theorem impl_compareEntries.mono_l : ∀ k, (∀ y0 y1 y2 y3 y4, LeO (impl_compareEntries.j0 k y0 y1 y2 y3 y4) (impl_compareEntries.j0 (k + 1) y0 y1 y2 y3 y4))
 | 0 => fun _ _ _ _ _ r h => by simp [impl_compareEntries.j0] at h
 | k + 1 => by
  have ih0 := impl_compareEntries.mono_l k
  ·intro y0 y1 y2 y3 y4
   unfold impl_compareEntries.j0
   repeat' first | (with_reducible first | exact ih0 _ _ _ _ _ | exact LeO.refl _ | exact LeO.none _ | refine LeO.ite ?_ ?_ | refine LeO.bind ?_ (fun _ => ?_)) | exact ih0 _ _ _ _ _ | exact LeO.none _ | refine LeO.ite ?_ ?_ | refine LeO.bind ?_ (fun _ => ?_)
theorem impl_compareEntries.mono : ∀ a0 a1 a2 a3 k, LeO (impl_compareEntries.f k a0 a1 a2 a3) (impl_compareEntries.f (k + 1) a0 a1 a2 a3) := by
 intro a0 a1 a2 a3 k
 have ih0 := impl_compareEntries.mono_l k
 unfold impl_compareEntries.f
 repeat' first | (with_reducible first | exact ih0 _ _ _ _ _ | exact LeO.refl _ | exact LeO.none _ | refine LeO.ite ?_ ?_ | refine LeO.bind ?_ (fun _ => ?_)) | exact ih0 _ _ _ _ _ | exact LeO.none _ | refine LeO.ite ?_ ?_ | refine LeO.bind ?_ (fun _ => ?_)
theorem impl_compareEntries.z0 {P : Prop} (h : P := by repeat (first | (with_reducible first | exact HB.out | apply below_alloc | apply pw_below_drewN | apply below_drew1 | refine below_set ?_ GE393.out | refine below_set ?_ GE394.out) | exact HB.out)) : P := h
set_option maxHeartbeats 8000000 in
set_option maxRecDepth 100000 in
theorem impl_compareEntries.calls (k : Nat) (a0_0 : Int) (a0_1 : ByteArray) (a1_0 : Int) (a1_1 : ByteArray) (r : Int) (w : World) (h : impl_compareEntries.f k a0_0 a0_1 a1_0 a1_1 = some r) :
  Calls Try.prog 25 #[.agg #[.int .i64 a0_0, .string a0_1], .agg #[.int .i64 a1_0, .string a1_1]] w fun e w' => e = .returned (.int .i64 r) ∧ Below w.heap.size w w' := by
 have hu49 := Try.underlying49
 have HB := Aside0.mk (Below.refl w.heap.size w)
 have H : (if a0_0 < a1_0 then (impl_compareEntries.j0 k true a0_0 a0_1 a1_0 a1_1) else (if a0_0 = a1_0 then (impl_compareEntries.j0 k (Op.bytesLess a0_1.toList a1_1.toList) a0_0 a0_1 a1_0 a1_1) else (impl_compareEntries.j0 k false a0_0 a0_1 a1_0 a1_1))) = some r := h
 clear h
 have HC3 := Aside0.mk H
 clear H
 go_enter Try.func25, Try.ntmps25
 go_upto_region 1 with (first | ((with_reducible refine gate_dst (N := 2) rfl ?_); refine box_event ?hg (N := 2) ?hd (cs := #[.int .i64 a0_0, .string a0_1]) (t := 49) ?hr ?_; (case hd => rfl); (case hg => rfl); (case hr => first | (go_simp; done) | (go_simp; rfl)); intro gb393 hg w4 hbox hb; have n_ : _ ∧ _ ∧ _ ∧ _ := ⟨AsM (below_step BL hb), AsM (hbox), AsM ((GL : w.heap.size ≤ gb393)), AsM ((GL : w.heap.size ≤ gb393))⟩; clear HB; obtain ⟨HB, BK393, GW393, GE393⟩ := n_; clear hb hbox hg) | ((with_reducible refine gate_dst (N := 3) rfl ?_); refine box_event ?hg (N := 3) ?hd (cs := #[.int .i64 a1_0, .string a1_1]) (t := 49) ?hr ?_; (case hd => rfl); (case hg => rfl); (case hr => first | (go_simp; done) | (go_simp; rfl)); intro gb394 hg w5 hbox hb; have n_ : _ ∧ _ ∧ _ ∧ _ ∧ _ ∧ _ ∧ _ := ⟨AsM (blk_below (BD BK393) hb), AsM (below_step BG hb), AsM (hbox), AsM ((GM : w.heap.size ≤ gb394)), AsM ((GM : w.heap.size ≤ gb394)), AsM ((by rw [hg]; exact Nat.ne_of_lt (blk_lt (BD BK393)) : gb393 ≠ gb394)), AsM ((by rw [hg]; exact Nat.ne_of_gt (blk_lt (BD BK393)) : gb394 ≠ gb393))⟩; clear BK393 HB; obtain ⟨BK393, HB, BK394, GW394, GE394, NB393_394, NB394_393⟩ := n_; clear hb hbox hg))
 (try simp only [Act.put, List.setIfInBounds_toArray, List.set_cons_zero, List.set_cons_succ])
 go_cut [5] (fun v5 wc => ∃ (kq : Nat) (x5_2 : Bool), v5 = .bool x5_2 ∧ Aside0 (impl_compareEntries.j0 kq x5_2 a0_0 a0_1 a1_0 a1_1 = some r) ∧ Aside0 (kq ≤ k) ∧ Aside0 (wc.heap[gb393]? = some (.cells #[.int .i64 a0_0, .string a0_1] 49 (0, 0))) ∧ Aside0 (wc.heap[gb394]? = some (.cells #[.int .i64 a1_0, .string a1_1] 49 (0, 0))) ∧ Aside0 (Below w.heap.size w wc))
 case first =>
  have H := HC3.out
  clear HC3
  by_cases c6 : a0_0 < a1_0
  ·rw [if_pos c6] at H
   have c6b0 : decide (a0_0 < a1_0) = true := decide_eq_true c6
   clear c6
   (first | rw [c6b0] | (simp only [i64_w, i32_w]; rw [c6b0]) | skip)
   have H' := Aside0.mk H
   clear H
   have hnb7 := NB393_394.out
   have hnc7 := NB394_393.out
   obtain ⟨hcz8_0, hcz8_1, hfz8_0, hfz8_1⟩ := bk2 BK393.out
   obtain ⟨hcz9_0, hcz9_1, hfz9_0, hfz9_1⟩ := bk2 BK394.out
   go_wp2
   go_meet
   case rel => exact ⟨_, (true), RS, H', ⟨by first | omega | exact Nat.le_refl _⟩, ⟨BD BK393⟩, ⟨BD BK394⟩, ⟨impl_compareEntries.z0⟩⟩
  ·rw [if_neg c6] at H
   have c6b0 : decide (a0_0 < a1_0) = false := decide_eq_false c6
   clear c6
   (first | rw [c6b0] | (simp only [i64_w, i32_w]; rw [c6b0]) | skip)
   by_cases c10 : a0_0 = a1_0
   ·rw [if_pos c10] at H
    have c10b0 : (a0_0 == a1_0) = true := beq_iff_eq.mpr c10
    have c10b1 : (a0_0 != a1_0) = false := bne_eq_false_iff_eq.mpr c10
    clear c10
    have H' := Aside0.mk H
    clear H
    have hnb11 := NB393_394.out
    have hnc11 := NB394_393.out
    obtain ⟨hcz12_0, hcz12_1, hfz12_0, hfz12_1⟩ := bk2 BK393.out
    obtain ⟨hcz13_0, hcz13_1, hfz13_0, hfz13_1⟩ := bk2 BK394.out
    go_wp2
    go_meet
    case rel => exact ⟨_, ((Op.bytesLess a0_1.toList a1_1.toList)), RS, H', ⟨by first | omega | exact Nat.le_refl _⟩, ⟨BD BK393⟩, ⟨BD BK394⟩, ⟨impl_compareEntries.z0⟩⟩
   ·rw [if_neg c10] at H
    have c10b0 : (a0_0 == a1_0) = false := beq_eq_false_iff_ne.mpr c10
    have c10b1 : (a0_0 != a1_0) = true := bne_iff_ne.mpr c10
    have H' := Aside0.mk H
    clear H
    have hnb14 := NB393_394.out
    have hnc14 := NB394_393.out
    obtain ⟨hcz15_0, hcz15_1, hfz15_0, hfz15_1⟩ := bk2 BK393.out
    obtain ⟨hcz16_0, hcz16_1, hfz16_0, hfz16_1⟩ := bk2 BK394.out
    go_wp2
    go_meet
    case rel => exact ⟨_, (false), RS, H', ⟨by first | omega | exact Nat.le_refl _⟩, ⟨BD BK393⟩, ⟨BD BK394⟩, ⟨impl_compareEntries.z0⟩⟩
 case rest =>
  clear HC3
  try clear c1
  try clear c2
  try clear p2
  try clear c6
  try clear c6b0
  try clear c7
  try clear c10
  try clear c10b0
  try clear c10b1
  try clear c11
  try clear c14
  try clear hcz12_0
  try clear hcz12_1
  try clear hcz13_0
  try clear hcz13_1
  try clear hcz15_0
  try clear hcz15_1
  try clear hcz16_0
  try clear hcz16_1
  try clear hcz8_0
  try clear hcz8_1
  try clear hcz9_0
  try clear hcz9_1
  try clear hfz12_0
  try clear hfz12_1
  try clear hfz13_0
  try clear hfz13_1
  try clear hfz15_0
  try clear hfz15_1
  try clear hfz16_0
  try clear hfz16_1
  try clear hfz8_0
  try clear hfz8_1
  try clear hfz9_0
  try clear hfz9_1
  obtain ⟨kq, x5_2, rfl, HA, HJ2, BK393, BK394, HB⟩ := hcut
  cases kq with
  | zero => exact absurd HA.out (by simp [impl_compareEntries.j0])
  | succ kj2 =>
   have H := HA.out
   clear HA
   simp only [impl_compareEntries.j0] at H
   by_cases c17 : x5_2 = true
   ·subst c17
    replace H := IP H
    obtain rfl := Option.some.inj H
    go_wp2
    go_ret
    exact ⟨ER, BG⟩
   ·replace c17 := Bool.eq_false_iff.mpr c17
    subst c17
    replace H := IN H
    by_cases c18 : (a0_0 == a1_0 && (a0_1.toList == a1_1.toList)) = true
    ·rw [if_pos c18] at H
     have c18b0 : (a0_0 == a1_0 && (a0_1.toList == a1_1.toList)) = true := c18
     (try (have c18b1 : decide (a0_0 = a1_0 && (a0_1.toList == a1_1.toList)) = true := by simpa using c18))
     (try (have c18b2 : (a0_0 == a1_0 && (a0_1.toList == a1_1.toList)) = true := by simpa using c18))
     clear c18
     obtain rfl := Option.some.inj H
     have hnb19 := NB393_394.out
     have hnc19 := NB394_393.out
     obtain ⟨hcz20_0, hcz20_1, hfz20_0, hfz20_1⟩ := bk2 BK393.out
     obtain ⟨hcz21_0, hcz21_1, hfz21_0, hfz21_1⟩ := bk2 BK394.out
     go_wp2
     go_ret
     exact ⟨ER, BG⟩
    ·rw [if_neg c18] at H
     have c18b0 : (a0_0 == a1_0 && (a0_1.toList == a1_1.toList)) = false := by simpa using c18
     (try (have c18b1 : decide (a0_0 = a1_0 && (a0_1.toList == a1_1.toList)) = false := by simpa using c18))
     (try (have c18b2 : (a0_0 == a1_0 && (a0_1.toList == a1_1.toList)) = false := by simpa using c18))
     (try (have c18b3 : ¬ (a0_0 = a1_0 && (a0_1.toList == a1_1.toList)) := by simpa using c18))
     clear c18
     obtain rfl := Option.some.inj H
     have hnb22 := NB393_394.out
     have hnc22 := NB394_393.out
     obtain ⟨hcz23_0, hcz23_1, hfz23_0, hfz23_1⟩ := bk2 BK393.out
     obtain ⟨hcz24_0, hcz24_1, hfz24_0, hfz24_1⟩ := bk2 BK394.out
     go_wp2
     go_ret
     exact ⟨ER, BG⟩
end Go.Proofs.Ytbjlldjkkdiblaa.G

namespace Go.Proofs.Ytbjlldjkkdiblaa.G
open Go.RowKit Go.Proofs.YtbjlldjkkdiblaaW.PrintWords Go.Proofs.YtbjlldjkkdiblaaW.PrintLast Go.Proofs.YtbjlldjkkdiblaaW.PrintMore Go.Proofs.Ytbjlldjkkdiblaa.Sh
attribute [local go_sem] max2_int min2_int max_two min_two max_three min_three max_four min_four
set_option linter.unusedVariables false
set_option linter.unusedSimpArgs false
def impl_isPlain.l0 : Nat → ByteArray → Int → Option (Bool)
 | 0, _, _ => none
 | k + 1, x0, x3 => if x3 < (x0.size : Int) then (if 0 ≤ x3 then (if (bt x0 x3) = 32 then (some false) else (if (bt x0 x3) = 10 then (some false) else (impl_isPlain.l0 k x0 (wrap64 (x3 + 1))))) else (none)) else (some true)
def impl_isPlain.f (k : Nat) (a0 : ByteArray) : Option (Bool) := impl_isPlain.l0 k a0 0
theorem impl_isPlain.mono_l : ∀ k, (∀ y0 y1, LeO (impl_isPlain.l0 k y0 y1) (impl_isPlain.l0 (k + 1) y0 y1))
 | 0 => fun _ _ r h => by simp [impl_isPlain.l0] at h
 | k + 1 => by
  have ih0 := impl_isPlain.mono_l k
  ·intro y0 y1
   unfold impl_isPlain.l0
   repeat' first | (with_reducible first | exact ih0 _ _ | exact LeO.refl _ | exact LeO.none _ | refine LeO.ite ?_ ?_ | refine LeO.bind ?_ (fun _ => ?_)) | exact ih0 _ _ | exact LeO.none _ | refine LeO.ite ?_ ?_ | refine LeO.bind ?_ (fun _ => ?_)
theorem impl_isPlain.mono : ∀ a0 k, LeO (impl_isPlain.f k a0) (impl_isPlain.f (k + 1) a0) := by
 intro a0 k
 have ih0 := impl_isPlain.mono_l k
 unfold impl_isPlain.f
 repeat' first | (with_reducible first | exact ih0 _ _ | exact LeO.refl _ | exact LeO.none _ | refine LeO.ite ?_ ?_ | refine LeO.bind ?_ (fun _ => ?_)) | exact ih0 _ _ | exact LeO.none _ | refine LeO.ite ?_ ?_ | refine LeO.bind ?_ (fun _ => ?_)
set_option maxHeartbeats 8000000 in
set_option maxRecDepth 100000 in
theorem impl_isPlain.calls (k : Nat) (a0 : ByteArray) (r : Bool) (w : World) (h : impl_isPlain.f k a0 = some r) :
  Calls Try.prog 43 #[.string a0] w fun e w' => e = .returned (.bool r) ∧ Drawn0 w w' := by
 have H : (impl_isPlain.l0 k a0 0) = some r := h
 clear h
 have H' := Aside0.mk H
 clear H
 go_enter Try.func43, Try.ntmps43
 go_wp2
 go_loopg [3] k (fun kq v3 w' => ∃ (x3_1 : Int), v3 = .int .i64 x3_1 ∧ Aside0 (impl_isPlain.l0 kq a0 x3_1 = some r) ∧ Aside0 (kq ≤ k) ∧ Drawn0 w w')
 case atStart => exact ⟨(0), RS, H', ⟨Nat.le_refl _⟩, DR⟩
 case round =>
  clear H'
  obtain ⟨x3_1, rfl, HA, HK1, ⟨m1, rfl⟩⟩ := hrel
  cases gk with
  | zero => exact absurd HA.out (by simp [impl_isPlain.l0])
  | succ k1 =>
   have H := HA.out
   clear HA
   simp only [impl_isPlain.l0] at H
   by_cases c2 : x3_1 < (a0.size : Int)
   ·rw [if_pos c2] at H
    have c2b0 : decide (x3_1 < (a0.size : Int)) = true := decide_eq_true c2
    clear c2
    by_cases c3 : 0 ≤ x3_1
    ·rw [if_pos c3] at H
     have c3b0 : decide (0 ≤ x3_1) = true := decide_eq_true c3
     clear c3
     by_cases c5 : (bt a0 x3_1) = 32
     ·rw [if_pos c5] at H
      have c5b0 : ((bt a0 x3_1) == 32) = true := beq_iff_eq.mpr c5
      have c5b1 : ((bt a0 x3_1) != 32) = false := bne_eq_false_iff_eq.mpr c5
      clear c5
      obtain rfl := Option.some.inj H
      have p4 : 0 ≤ (x3_1 : Int) := of_decide_eq_true AS
      have q4 : x3_1 < (a0.size : Int) := of_decide_eq_true AS
      have hx4 := bt_at a0 x3_1
      replace p4 := eq_true p4
      replace q4 := eq_true q4
      go_wp2
      go_ret
      exact ⟨by first | rfl | (simp; done) | (simp [*]; done), DR⟩
     ·rw [if_neg c5] at H
      have c5b0 : ((bt a0 x3_1) == 32) = false := beq_eq_false_iff_ne.mpr c5
      have c5b1 : ((bt a0 x3_1) != 32) = true := bne_iff_ne.mpr c5
      by_cases c7 : (bt a0 x3_1) = 10
      ·rw [if_pos c7] at H
       have c7b0 : ((bt a0 x3_1) == 10) = true := beq_iff_eq.mpr c7
       have c7b1 : ((bt a0 x3_1) != 10) = false := bne_eq_false_iff_eq.mpr c7
       clear c7
       obtain rfl := Option.some.inj H
       have p4 : 0 ≤ (x3_1 : Int) := of_decide_eq_true AS
       have q4 : x3_1 < (a0.size : Int) := of_decide_eq_true AS
       have hx4 := bt_at a0 x3_1
       replace p4 := eq_true p4
       replace q4 := eq_true q4
       have p6 : 0 ≤ (x3_1 : Int) := of_decide_eq_true AS
       have q6 : x3_1 < (a0.size : Int) := of_decide_eq_true AS
       have hx6 := bt_at a0 x3_1
       replace p6 := eq_true p6
       replace q6 := eq_true q6
       go_wp2
       go_ret
       exact ⟨by first | rfl | (simp; done) | (simp [*]; done), DR⟩
      ·rw [if_neg c7] at H
       have c7b0 : ((bt a0 x3_1) == 10) = false := beq_eq_false_iff_ne.mpr c7
       have c7b1 : ((bt a0 x3_1) != 10) = true := bne_iff_ne.mpr c7
       have H' := Aside0.mk H
       clear H
       have p4 : 0 ≤ (x3_1 : Int) := of_decide_eq_true AS
       have q4 : x3_1 < (a0.size : Int) := of_decide_eq_true AS
       have hx4 := bt_at a0 x3_1
       replace p4 := eq_true p4
       replace q4 := eq_true q4
       have p6 : 0 ≤ (x3_1 : Int) := of_decide_eq_true AS
       have q6 : x3_1 < (a0.size : Int) := of_decide_eq_true AS
       have hx6 := bt_at a0 x3_1
       replace p6 := eq_true p6
       replace q6 := eq_true q6
       go_wp2
       go_roundg k1
       case measure => have := HK1.out; omega
       case rel => exact ⟨(wrap64 (x3_1 + 1)), RS, H', ⟨by have := HK1.out; omega⟩, DR⟩
    ·rw [if_neg c3] at H
     exact absurd H (by simp)
   ·rw [if_neg c2] at H
    have c2b0 : decide (x3_1 < (a0.size : Int)) = false := decide_eq_false c2
    clear c2
    obtain rfl := Option.some.inj H
    go_wp2
    go_ret
    exact ⟨by first | rfl | (simp; done) | (simp [*]; done), DR⟩
def impl_ItemOk.f (k : Nat) (a0_0 : ByteArray) (a0_1 : ByteArray) (a0_2 : Int) : Option (Bool) := (impl_within.f (a0_0.size : Int) 1 20).bind fun t396 => (if t396 = true then (if (a0_1.size : Int) ≤ 40 then ((impl_isPlain.f k a0_0).bind fun t397 => (if t397 = true then ((impl_isPlain.f k a0_1).bind fun t398 => (if t398 = true then ((impl_within.f a0_2 0 3).bind fun t399 => (some t399)) else (some false))) else (some false))) else (some false)) else (some false))
theorem impl_ItemOk.mono : ∀ a0 a1 a2 k, LeO (impl_ItemOk.f k a0 a1 a2) (impl_ItemOk.f (k + 1) a0 a1 a2) := by
 intro a0 a1 a2 k
 unfold impl_ItemOk.f
 repeat' first | (with_reducible first | exact impl_isPlain.mono _ _ | exact LeO.refl _ | exact LeO.none _ | refine LeO.ite ?_ ?_ | refine LeO.bind ?_ (fun _ => ?_)) | exact impl_isPlain.mono _ _ | exact LeO.none _ | refine LeO.ite ?_ ?_ | refine LeO.bind ?_ (fun _ => ?_)
set_option maxHeartbeats 8000000 in
set_option maxRecDepth 100000 in
theorem impl_ItemOk.calls (k : Nat) (a0_0 : ByteArray) (a0_1 : ByteArray) (a0_2 : Int) (r : Bool) (w : World) (h : impl_ItemOk.f k a0_0 a0_1 a0_2 = some r) :
  Calls Try.prog 26 #[.agg #[.string a0_0, .string a0_1, .int .i64 a0_2]] w fun e w' => e = .returned (.bool r) ∧ Below w.heap.size w w' := by
 have hu55 := Try.underlying55
 have HB := Aside0.mk (Below.refl w.heap.size w)
 have H : ((impl_within.f (a0_0.size : Int) 1 20).bind fun t396 => (if t396 = true then (if (a0_1.size : Int) ≤ 40 then ((impl_isPlain.f k a0_0).bind fun t397 => (if t397 = true then ((impl_isPlain.f k a0_1).bind fun t398 => (if t398 = true then ((impl_within.f a0_2 0 3).bind fun t399 => (some t399)) else (some false))) else (some false))) else (some false)) else (some false))) = some r := h
 clear h
 replace H := BS H
 obtain ⟨t396, A20, H⟩ := H
 have A2 := Aside0.mk A20
 clear A20
 by_cases c3 : t396 = true
 ·subst c3
  replace H := IP H
  by_cases c4 : (a0_1.size : Int) ≤ 40
  ·rw [if_pos c4] at H
   have c4b0 : decide ((a0_1.size : Int) ≤ 40) = true := decide_eq_true c4
   have c4b1 : decide (a0_1.size ≤ 40) = true := decide_eq_true (by omega)
   clear c4
   replace H := BS H
   obtain ⟨t397, A50, H⟩ := H
   have A5 := Aside0.mk A50
   clear A50
   by_cases c6 : t397 = true
   ·subst c6
    replace H := IP H
    replace H := BS H
    obtain ⟨t398, A70, H⟩ := H
    have A7 := Aside0.mk A70
    clear A70
    by_cases c8 : t398 = true
    ·subst c8
     replace H := IP H
     replace H := BS H
     obtain ⟨t399, A90, H⟩ := H
     have A9 := Aside0.mk A90
     clear A90
     obtain rfl := Option.some.inj H
     go_enter Try.func26, Try.ntmps26
     go_wp2_with (first | ((with_reducible refine gate_dst (N := 1) rfl ?_); (try (refine gate_guard (by rfl) ?_; dsimp only)); refine box_event ?hg (N := 1) ?hd (cs := #[.string a0_0, .string a0_1, .int .i64 a0_2]) (t := 55) ?hr ?_; (case hd => rfl); (case hg => rfl); (case hr => first | (go_simp; done) | (go_simp; rfl)); intro gb395 hg w10 hbox hb; have n_ : _ ∧ _ ∧ _ ∧ _ := ⟨AsM (below_step BL hb), AsM (hbox), AsM ((GL : w.heap.size ≤ gb395)), AsM ((GL : w.heap.size ≤ gb395))⟩; clear HB; obtain ⟨HB, BK395, GW395, GE395⟩ := n_; clear hb hbox hg; obtain ⟨hcz11_0, hcz11_1, hcz11_2, hfz11_0, hfz11_1, hfz11_2⟩ := bk3 BK395.out) | ((with_reducible refine gate_callee (f := 23) rfl ?_); refine goesL_ (some 6) rfl rfl Try.func23 (by kernel_rfl) rfl #[.int .i64 (a0_0.size : Int), .int .i64 1, .int .i64 20] rfl AQ ?_; (with_reducible refine (impl_within.calls (a0_0.size : Int) 1 20 true _ A2.out).mono ?_); rintro e w' ⟨rfl, ⟨nd, rfl⟩⟩; refine ⟨_, rfl, ?_⟩) | (go_at_call 43; (with_reducible refine (impl_isPlain.calls k a0_0 true _ A5.out).mono ?_); rintro e w' ⟨rfl, ⟨nd, rfl⟩⟩) | (go_at_call 43; (with_reducible refine (impl_isPlain.calls k a0_1 true _ A7.out).mono ?_); rintro e w' ⟨rfl, ⟨nd, rfl⟩⟩) | (go_at_call 23; (with_reducible refine (impl_within.calls a0_2 0 3 t399 _ A9.out).mono ?_); rintro e w' ⟨rfl, ⟨nd, rfl⟩⟩))
     go_ret
     exact ⟨ER, BG⟩
    ·replace c8 := Bool.eq_false_iff.mpr c8
     subst c8
     replace H := IN H
     obtain rfl := Option.some.inj H
     go_enter Try.func26, Try.ntmps26
     go_wp2_with (first | ((with_reducible refine gate_dst (N := 1) rfl ?_); (try (refine gate_guard (by rfl) ?_; dsimp only)); refine box_event ?hg (N := 1) ?hd (cs := #[.string a0_0, .string a0_1, .int .i64 a0_2]) (t := 55) ?hr ?_; (case hd => rfl); (case hg => rfl); (case hr => first | (go_simp; done) | (go_simp; rfl)); intro gb395 hg w12 hbox hb; have n_ : _ ∧ _ ∧ _ ∧ _ := ⟨AsM (below_step BL hb), AsM (hbox), AsM ((GL : w.heap.size ≤ gb395)), AsM ((GL : w.heap.size ≤ gb395))⟩; clear HB; obtain ⟨HB, BK395, GW395, GE395⟩ := n_; clear hb hbox hg; obtain ⟨hcz13_0, hcz13_1, hcz13_2, hfz13_0, hfz13_1, hfz13_2⟩ := bk3 BK395.out) | ((with_reducible refine gate_callee (f := 23) rfl ?_); refine goesL_ (some 6) rfl rfl Try.func23 (by kernel_rfl) rfl #[.int .i64 (a0_0.size : Int), .int .i64 1, .int .i64 20] rfl AQ ?_; (with_reducible refine (impl_within.calls (a0_0.size : Int) 1 20 true _ A2.out).mono ?_); rintro e w' ⟨rfl, ⟨nd, rfl⟩⟩; refine ⟨_, rfl, ?_⟩) | (go_at_call 43; (with_reducible refine (impl_isPlain.calls k a0_0 true _ A5.out).mono ?_); rintro e w' ⟨rfl, ⟨nd, rfl⟩⟩) | (go_at_call 43; (with_reducible refine (impl_isPlain.calls k a0_1 false _ A7.out).mono ?_); rintro e w' ⟨rfl, ⟨nd, rfl⟩⟩))
     go_ret
     exact ⟨ER, BG⟩
   ·replace c6 := Bool.eq_false_iff.mpr c6
    subst c6
    replace H := IN H
    obtain rfl := Option.some.inj H
    go_enter Try.func26, Try.ntmps26
    go_wp2_with (first | ((with_reducible refine gate_dst (N := 1) rfl ?_); (try (refine gate_guard (by rfl) ?_; dsimp only)); refine box_event ?hg (N := 1) ?hd (cs := #[.string a0_0, .string a0_1, .int .i64 a0_2]) (t := 55) ?hr ?_; (case hd => rfl); (case hg => rfl); (case hr => first | (go_simp; done) | (go_simp; rfl)); intro gb395 hg w14 hbox hb; have n_ : _ ∧ _ ∧ _ ∧ _ := ⟨AsM (below_step BL hb), AsM (hbox), AsM ((GL : w.heap.size ≤ gb395)), AsM ((GL : w.heap.size ≤ gb395))⟩; clear HB; obtain ⟨HB, BK395, GW395, GE395⟩ := n_; clear hb hbox hg; obtain ⟨hcz15_0, hcz15_1, hcz15_2, hfz15_0, hfz15_1, hfz15_2⟩ := bk3 BK395.out) | ((with_reducible refine gate_callee (f := 23) rfl ?_); refine goesL_ (some 6) rfl rfl Try.func23 (by kernel_rfl) rfl #[.int .i64 (a0_0.size : Int), .int .i64 1, .int .i64 20] rfl AQ ?_; (with_reducible refine (impl_within.calls (a0_0.size : Int) 1 20 true _ A2.out).mono ?_); rintro e w' ⟨rfl, ⟨nd, rfl⟩⟩; refine ⟨_, rfl, ?_⟩) | (go_at_call 43; (with_reducible refine (impl_isPlain.calls k a0_0 false _ A5.out).mono ?_); rintro e w' ⟨rfl, ⟨nd, rfl⟩⟩))
    go_ret
    exact ⟨ER, BG⟩
  ·rw [if_neg c4] at H
   have c4b0 : decide ((a0_1.size : Int) ≤ 40) = false := decide_eq_false c4
   have c4b1 : decide (a0_1.size ≤ 40) = false := decide_eq_false (by omega)
   clear c4
   obtain rfl := Option.some.inj H
   go_enter Try.func26, Try.ntmps26
   go_wp2_with (first | ((with_reducible refine gate_dst (N := 1) rfl ?_); (try (refine gate_guard (by rfl) ?_; dsimp only)); refine box_event ?hg (N := 1) ?hd (cs := #[.string a0_0, .string a0_1, .int .i64 a0_2]) (t := 55) ?hr ?_; (case hd => rfl); (case hg => rfl); (case hr => first | (go_simp; done) | (go_simp; rfl)); intro gb395 hg w16 hbox hb; have n_ : _ ∧ _ ∧ _ ∧ _ := ⟨AsM (below_step BL hb), AsM (hbox), AsM ((GL : w.heap.size ≤ gb395)), AsM ((GL : w.heap.size ≤ gb395))⟩; clear HB; obtain ⟨HB, BK395, GW395, GE395⟩ := n_; clear hb hbox hg; obtain ⟨hcz17_0, hcz17_1, hcz17_2, hfz17_0, hfz17_1, hfz17_2⟩ := bk3 BK395.out) | ((with_reducible refine gate_callee (f := 23) rfl ?_); refine goesL_ (some 6) rfl rfl Try.func23 (by kernel_rfl) rfl #[.int .i64 (a0_0.size : Int), .int .i64 1, .int .i64 20] rfl AQ ?_; (with_reducible refine (impl_within.calls (a0_0.size : Int) 1 20 true _ A2.out).mono ?_); rintro e w' ⟨rfl, ⟨nd, rfl⟩⟩; refine ⟨_, rfl, ?_⟩))
   go_ret
   exact ⟨ER, BG⟩
 ·replace c3 := Bool.eq_false_iff.mpr c3
  subst c3
  replace H := IN H
  obtain rfl := Option.some.inj H
  go_enter Try.func26, Try.ntmps26
  go_wp2_with (first | ((with_reducible refine gate_dst (N := 1) rfl ?_); (try (refine gate_guard (by rfl) ?_; dsimp only)); refine box_event ?hg (N := 1) ?hd (cs := #[.string a0_0, .string a0_1, .int .i64 a0_2]) (t := 55) ?hr ?_; (case hd => rfl); (case hg => rfl); (case hr => first | (go_simp; done) | (go_simp; rfl)); intro gb395 hg w18 hbox hb; have n_ : _ ∧ _ ∧ _ ∧ _ := ⟨AsM (below_step BL hb), AsM (hbox), AsM ((GL : w.heap.size ≤ gb395)), AsM ((GL : w.heap.size ≤ gb395))⟩; clear HB; obtain ⟨HB, BK395, GW395, GE395⟩ := n_; clear hb hbox hg; obtain ⟨hcz19_0, hcz19_1, hcz19_2, hfz19_0, hfz19_1, hfz19_2⟩ := bk3 BK395.out) | ((with_reducible refine gate_callee (f := 23) rfl ?_); refine goesL_ (some 6) rfl rfl Try.func23 (by kernel_rfl) rfl #[.int .i64 (a0_0.size : Int), .int .i64 1, .int .i64 20] rfl AQ ?_; (with_reducible refine (impl_within.calls (a0_0.size : Int) 1 20 false _ A2.out).mono ?_); rintro e w' ⟨rfl, ⟨nd, rfl⟩⟩; refine ⟨_, rfl, ?_⟩))
  go_ret
  exact ⟨ER, BG⟩
def impl_isNum.f (a0 : Int) : Option (Bool) := (impl_within.f a0 0 4294967295).bind fun t400 => (some t400)
set_option maxHeartbeats 8000000 in
set_option maxRecDepth 100000 in
theorem impl_isNum.calls (a0 : Int) (r : Bool) (w : World) (h : impl_isNum.f a0 = some r) :
  Calls Try.prog 39 #[.int .i64 a0] w fun e w' => e = .returned (.bool r) ∧ Drawn0 w w' := by
 have H : ((impl_within.f a0 0 4294967295).bind fun t400 => (some t400)) = some r := h
 clear h
 replace H := BS H
 obtain ⟨t400, A20, H⟩ := H
 have A2 := Aside0.mk A20
 clear A20
 obtain rfl := Option.some.inj H
 go_enter Try.func39, Try.ntmps39
 go_wp2_with (first | ((with_reducible refine gate_callee (f := 23) rfl ?_); refine goesL_ (some 4) rfl rfl Try.func23 (by kernel_rfl) rfl #[.int .i64 a0, .int .i64 0, .int .i64 4294967295] rfl AQ ?_; (with_reducible refine (impl_within.calls a0 0 4294967295 t400 _ A2.out).mono ?_); rintro e w' ⟨rfl, ⟨nd, rfl⟩⟩; refine ⟨_, rfl, ?_⟩))
 go_ret
 exact ⟨by first | rfl | (simp; done) | (simp [*]; done), DR⟩
def math_bits_ReverseBytes32.f (a0 : Int) : Option (Int) := some (Go.bits .or .u32 ((Go.bits .or .u32 (Go.bits .and .u32 (a0 / 256) 16711935) (((Go.bits .and .u32 a0 16711935) * 256) % 4294967296)) / 65536) (((Go.bits .or .u32 (Go.bits .and .u32 (a0 / 256) 16711935) (((Go.bits .and .u32 a0 16711935) * 256) % 4294967296)) * 65536) % 4294967296))
set_option maxHeartbeats 8000000 in
set_option maxRecDepth 100000 in
theorem math_bits_ReverseBytes32.calls (a0 : Int) (r : Int) (w : World) (h : math_bits_ReverseBytes32.f a0 = some r) :
  Calls Try.prog 81 #[.int .u32 a0] w fun e w' => e = .returned (.int .u32 r) ∧ Drawn0 w w' := by
 have H : (some (Go.bits .or .u32 ((Go.bits .or .u32 (Go.bits .and .u32 (a0 / 256) 16711935) (((Go.bits .and .u32 a0 16711935) * 256) % 4294967296)) / 65536) (((Go.bits .or .u32 (Go.bits .and .u32 (a0 / 256) 16711935) (((Go.bits .and .u32 a0 16711935) * 256) % 4294967296)) * 65536) % 4294967296))) = some r := h
 clear h
 obtain rfl := Option.some.inj H
 go_enter Try.func81, Try.ntmps81
 go_wp2
 go_ret
 exact ⟨by first | rfl | (simp; done) | (simp [*]; done), DR⟩
def math_bits_Reverse32.f (a0 : Int) : Option (Int) := (math_bits_ReverseBytes32.f (Go.bits .or .u32 (Go.bits .and .u32 ((Go.bits .or .u32 (Go.bits .and .u32 ((Go.bits .or .u32 (Go.bits .and .u32 (a0 / 2) 1431655765) (((Go.bits .and .u32 a0 1431655765) * 2) % 4294967296)) / 4) 858993459) (((Go.bits .and .u32 (Go.bits .or .u32 (Go.bits .and .u32 (a0 / 2) 1431655765) (((Go.bits .and .u32 a0 1431655765) * 2) % 4294967296)) 858993459) * 4) % 4294967296)) / 16) 252645135) (((Go.bits .and .u32 (Go.bits .or .u32 (Go.bits .and .u32 ((Go.bits .or .u32 (Go.bits .and .u32 (a0 / 2) 1431655765) (((Go.bits .and .u32 a0 1431655765) * 2) % 4294967296)) / 4) 858993459) (((Go.bits .and .u32 (Go.bits .or .u32 (Go.bits .and .u32 (a0 / 2) 1431655765) (((Go.bits .and .u32 a0 1431655765) * 2) % 4294967296)) 858993459) * 4) % 4294967296)) 252645135) * 16) % 4294967296))).bind fun t401 => (some t401)
set_option maxHeartbeats 8000000 in
set_option maxRecDepth 100000 in
theorem math_bits_Reverse32.calls (a0 : Int) (r : Int) (w : World) (h : math_bits_Reverse32.f a0 = some r) :
  Calls Try.prog 68 #[.int .u32 a0] w fun e w' => e = .returned (.int .u32 r) ∧ Drawn0 w w' := by
 have H : ((math_bits_ReverseBytes32.f (Go.bits .or .u32 (Go.bits .and .u32 ((Go.bits .or .u32 (Go.bits .and .u32 ((Go.bits .or .u32 (Go.bits .and .u32 (a0 / 2) 1431655765) (((Go.bits .and .u32 a0 1431655765) * 2) % 4294967296)) / 4) 858993459) (((Go.bits .and .u32 (Go.bits .or .u32 (Go.bits .and .u32 (a0 / 2) 1431655765) (((Go.bits .and .u32 a0 1431655765) * 2) % 4294967296)) 858993459) * 4) % 4294967296)) / 16) 252645135) (((Go.bits .and .u32 (Go.bits .or .u32 (Go.bits .and .u32 ((Go.bits .or .u32 (Go.bits .and .u32 (a0 / 2) 1431655765) (((Go.bits .and .u32 a0 1431655765) * 2) % 4294967296)) / 4) 858993459) (((Go.bits .and .u32 (Go.bits .or .u32 (Go.bits .and .u32 (a0 / 2) 1431655765) (((Go.bits .and .u32 a0 1431655765) * 2) % 4294967296)) 858993459) * 4) % 4294967296)) 252645135) * 16) % 4294967296))).bind fun t401 => (some t401)) = some r := h
 clear h
 replace H := BS H
 obtain ⟨t401, A20, H⟩ := H
 have A2 := Aside0.mk A20
 clear A20
 obtain rfl := Option.some.inj H
 go_enter Try.func68, Try.ntmps68
 go_wp2_with (first | ((with_reducible refine gate_callee (f := 81) rfl ?_); refine goesL_ (some 25) rfl rfl Try.func81 (by kernel_rfl) rfl #[.int .u32 (Go.bits .or .u32 (Go.bits .and .u32 ((Go.bits .or .u32 (Go.bits .and .u32 ((Go.bits .or .u32 (Go.bits .and .u32 (a0 / 2) 1431655765) (((Go.bits .and .u32 a0 1431655765) * 2) % 4294967296)) / 4) 858993459) (((Go.bits .and .u32 (Go.bits .or .u32 (Go.bits .and .u32 (a0 / 2) 1431655765) (((Go.bits .and .u32 a0 1431655765) * 2) % 4294967296)) 858993459) * 4) % 4294967296)) / 16) 252645135) (((Go.bits .and .u32 (Go.bits .or .u32 (Go.bits .and .u32 ((Go.bits .or .u32 (Go.bits .and .u32 (a0 / 2) 1431655765) (((Go.bits .and .u32 a0 1431655765) * 2) % 4294967296)) / 4) 858993459) (((Go.bits .and .u32 (Go.bits .or .u32 (Go.bits .and .u32 (a0 / 2) 1431655765) (((Go.bits .and .u32 a0 1431655765) * 2) % 4294967296)) 858993459) * 4) % 4294967296)) 252645135) * 16) % 4294967296))] rfl AQ ?_; (with_reducible refine (math_bits_ReverseBytes32.calls (Go.bits .or .u32 (Go.bits .and .u32 ((Go.bits .or .u32 (Go.bits .and .u32 ((Go.bits .or .u32 (Go.bits .and .u32 (a0 / 2) 1431655765) (((Go.bits .and .u32 a0 1431655765) * 2) % 4294967296)) / 4) 858993459) (((Go.bits .and .u32 (Go.bits .or .u32 (Go.bits .and .u32 (a0 / 2) 1431655765) (((Go.bits .and .u32 a0 1431655765) * 2) % 4294967296)) 858993459) * 4) % 4294967296)) / 16) 252645135) (((Go.bits .and .u32 (Go.bits .or .u32 (Go.bits .and .u32 ((Go.bits .or .u32 (Go.bits .and .u32 (a0 / 2) 1431655765) (((Go.bits .and .u32 a0 1431655765) * 2) % 4294967296)) / 4) 858993459) (((Go.bits .and .u32 (Go.bits .or .u32 (Go.bits .and .u32 (a0 / 2) 1431655765) (((Go.bits .and .u32 a0 1431655765) * 2) % 4294967296)) 858993459) * 4) % 4294967296)) 252645135) * 16) % 4294967296)) t401 _ A2.out).mono ?_); rintro e w' ⟨rfl, ⟨nd, rfl⟩⟩; refine ⟨_, rfl, ?_⟩))
 go_ret
 exact ⟨by first | rfl | (simp; done) | (simp [*]; done), DR⟩
def impl_Flip.f (a0 : Int) : Option (Int) := (impl_isNum.f a0).bind fun t402 => (if t402 = true then ((math_bits_Reverse32.f ((a0) % 4294967296)).bind fun t403 => (some (wrap64 (t403)))) else (some 0))
set_option maxHeartbeats 8000000 in
set_option maxRecDepth 100000 in
theorem impl_Flip.calls (a0 : Int) (r : Int) (w : World) (h : impl_Flip.f a0 = some r) :
  Calls Try.prog 52 #[.int .i64 a0] w fun e w' => e = .returned (.int .i64 r) ∧ Drawn0 w w' := by
 have H : ((impl_isNum.f a0).bind fun t402 => (if t402 = true then ((math_bits_Reverse32.f ((a0) % 4294967296)).bind fun t403 => (some (wrap64 (t403)))) else (some 0))) = some r := h
 clear h
 replace H := BS H
 obtain ⟨t402, A20, H⟩ := H
 have A2 := Aside0.mk A20
 clear A20
 by_cases c3 : t402 = true
 ·subst c3
  replace H := IP H
  replace H := BS H
  obtain ⟨t403, A40, H⟩ := H
  have A4 := Aside0.mk A40
  clear A40
  obtain rfl := Option.some.inj H
  go_enter Try.func52, Try.ntmps52
  go_wp2_with (first | ((with_reducible refine gate_callee (f := 39) rfl ?_); refine goesL_ (some 4) rfl rfl Try.func39 (by kernel_rfl) rfl #[.int .i64 a0] rfl AQ ?_; (with_reducible refine (impl_isNum.calls a0 true _ A2.out).mono ?_); rintro e w' ⟨rfl, ⟨nd, rfl⟩⟩; refine ⟨_, rfl, ?_⟩) | ((with_reducible refine gate_callee (f := 68) rfl ?_); refine goesL_ (some 8) rfl rfl Try.func68 (by kernel_rfl) rfl #[.int .u32 ((a0) % 4294967296)] rfl AQ ?_; (with_reducible refine (math_bits_Reverse32.calls ((a0) % 4294967296) t403 _ A4.out).mono ?_); rintro e w' ⟨rfl, ⟨nd, rfl⟩⟩; refine ⟨_, rfl, ?_⟩))
  go_ret
  exact ⟨by first | rfl | (simp; done) | (simp [*]; done), DR⟩
 ·replace c3 := Bool.eq_false_iff.mpr c3
  subst c3
  replace H := IN H
  obtain rfl := Option.some.inj H
  go_enter Try.func52, Try.ntmps52
  go_wp2_with (first | ((with_reducible refine gate_callee (f := 39) rfl ?_); refine goesL_ (some 4) rfl rfl Try.func39 (by kernel_rfl) rfl #[.int .i64 a0] rfl AQ ?_; (with_reducible refine (impl_isNum.calls a0 false _ A2.out).mono ?_); rintro e w' ⟨rfl, ⟨nd, rfl⟩⟩; refine ⟨_, rfl, ?_⟩))
  go_ret
  exact ⟨by first | rfl | (simp; done) | (simp [*]; done), DR⟩
def impl_OrderKey.f (a0 : Int) : Option (Int) := (impl_isNum.f a0).bind fun t404 => (if t404 = true then ((impl_Flip.f a0).bind fun t405 => (some (Go.bits .or .i64 t405 1))) else (some 0))
set_option maxHeartbeats 8000000 in
set_option maxRecDepth 100000 in
theorem impl_OrderKey.calls (a0 : Int) (r : Int) (w : World) (h : impl_OrderKey.f a0 = some r) :
  Calls Try.prog 44 #[.int .i64 a0] w fun e w' => e = .returned (.int .i64 r) ∧ Drawn0 w w' := by
 have H : ((impl_isNum.f a0).bind fun t404 => (if t404 = true then ((impl_Flip.f a0).bind fun t405 => (some (Go.bits .or .i64 t405 1))) else (some 0))) = some r := h
 clear h
 replace H := BS H
 obtain ⟨t404, A20, H⟩ := H
 have A2 := Aside0.mk A20
 clear A20
 by_cases c3 : t404 = true
 ·subst c3
  replace H := IP H
  replace H := BS H
  obtain ⟨t405, A40, H⟩ := H
  have A4 := Aside0.mk A40
  clear A40
  obtain rfl := Option.some.inj H
  go_enter Try.func44, Try.ntmps44
  go_wp2_with (first | ((with_reducible refine gate_callee (f := 39) rfl ?_); refine goesL_ (some 4) rfl rfl Try.func39 (by kernel_rfl) rfl #[.int .i64 a0] rfl AQ ?_; (with_reducible refine (impl_isNum.calls a0 true _ A2.out).mono ?_); rintro e w' ⟨rfl, ⟨nd, rfl⟩⟩; refine ⟨_, rfl, ?_⟩) | ((with_reducible refine gate_callee (f := 52) rfl ?_); refine goesL_ (some 7) rfl rfl Try.func52 (by kernel_rfl) rfl #[.int .i64 a0] rfl AQ ?_; (with_reducible refine (impl_Flip.calls a0 t405 _ A4.out).mono ?_); rintro e w' ⟨rfl, ⟨nd, rfl⟩⟩; refine ⟨_, rfl, ?_⟩))
  go_ret
  exact ⟨by first | rfl | (simp; done) | (simp [*]; done), DR⟩
 ·replace c3 := Bool.eq_false_iff.mpr c3
  subst c3
  replace H := IN H
  obtain rfl := Option.some.inj H
  go_enter Try.func44, Try.ntmps44
  go_wp2_with (first | ((with_reducible refine gate_callee (f := 39) rfl ?_); refine goesL_ (some 4) rfl rfl Try.func39 (by kernel_rfl) rfl #[.int .i64 a0] rfl AQ ?_; (with_reducible refine (impl_isNum.calls a0 false _ A2.out).mono ?_); rintro e w' ⟨rfl, ⟨nd, rfl⟩⟩; refine ⟨_, rfl, ?_⟩))
  go_ret
  exact ⟨by first | rfl | (simp; done) | (simp [*]; done), DR⟩
def impl_entryOf.f (k : Nat) (a0 : ByteArray) : Option (Int × ByteArray) := (impl_Hash.f k a0).bind fun t407 => ((impl_OrderKey.f t407).bind fun t408 => (some (t408, a0)))
theorem impl_entryOf.mono : ∀ a0 k, LeO (impl_entryOf.f k a0) (impl_entryOf.f (k + 1) a0) := by
 intro a0 k
 unfold impl_entryOf.f
 repeat' first | (with_reducible first | exact impl_Hash.mono _ _ | exact LeO.refl _ | exact LeO.none _ | refine LeO.ite ?_ ?_ | refine LeO.bind ?_ (fun _ => ?_)) | exact impl_Hash.mono _ _ | exact LeO.none _ | refine LeO.ite ?_ ?_ | refine LeO.bind ?_ (fun _ => ?_)
set_option maxHeartbeats 8000000 in
set_option maxRecDepth 100000 in
theorem impl_entryOf.calls (k : Nat) (a0 : ByteArray) (r1 : Int) (r2 : ByteArray) (w : World) (h : impl_entryOf.f k a0 = some (r1, r2)) :
  Calls Try.prog 27 #[.string a0] w fun e w' => e = .returned (.agg #[.int .i64 r1, .string r2]) ∧ Below w.heap.size w w' := by
 have hu49 := Try.underlying49
 have HB := Aside0.mk (Below.refl w.heap.size w)
 have H : ((impl_Hash.f k a0).bind fun t407 => ((impl_OrderKey.f t407).bind fun t408 => (some (t408, a0)))) = some (r1, r2) := h
 clear h
 replace H := BS H
 obtain ⟨t407, A20, H⟩ := H
 have A2 := Aside0.mk A20
 clear A20
 replace H := BS H
 obtain ⟨t408, A30, H⟩ := H
 have A3 := Aside0.mk A30
 clear A30
 simp only [Option.some.injEq, Prod.mk.injEq] at H
 obtain ⟨rfl, rfl⟩ := H
 go_enter Try.func27, Try.ntmps27
 go_wp2_with (first | ((with_reducible refine gate_dst (N := 2) rfl ?_); refine box_event ?hg (N := 2) ?hd (cs := #[.int .i64 0, .string (⟨#[]⟩ : ByteArray)]) (t := 49) ?hr ?_; (case hd => rfl); (case hg => rfl); (case hr => first | (go_simp; done) | (go_simp; rfl)); intro gb406 hg w4 hbox hb; have n_ : _ ∧ _ ∧ _ ∧ _ := ⟨AsM (below_step BL hb), AsM (hbox), AsM ((GL : w.heap.size ≤ gb406)), AsM ((GL : w.heap.size ≤ gb406))⟩; clear HB; obtain ⟨HB, BK406, GW406, GE406⟩ := n_; clear hb hbox hg) | ((with_reducible refine gate_callee (f := 19) rfl ?_); refine goesL_ (some 4) rfl rfl Try.func19 (by kernel_rfl) rfl #[.string a0] rfl AQ ?_; (with_reducible refine (impl_Hash.calls k a0 t407 _ A2.out).mono ?_); rintro e w' ⟨rfl, ⟨nd, rfl⟩⟩; refine ⟨_, rfl, ?_⟩; (try (rw [drewN_self w4]; generalize hq_ : World.drewN w4 _ = w4; have n0_ : Aside0 (w4.heap[gb406]? = some (.cells #[.int .i64 0, .string (⟨#[]⟩ : ByteArray)] 49 (0, 0))) := ⟨by rw [← hq_]; exact (BD BK406)⟩; have n1_ : Aside0 (Below w.heap.size w w4) := ⟨by rw [← hq_]; exact BG⟩; clear BK406 HB hq_; have BK406 := n0_; have HB := n1_; clear n0_ n1_))) | ((with_reducible refine gate_callee (f := 44) rfl ?_); refine goesL_ (some 5) rfl rfl Try.func44 (by kernel_rfl) rfl #[.int .i64 t407] rfl AQ ?_; (with_reducible refine (impl_OrderKey.calls t407 t408 _ A3.out).mono ?_); rintro e w' ⟨rfl, ⟨nd, rfl⟩⟩; refine ⟨_, rfl, ?_⟩; (try (rw [drewN_self w4]; generalize hq_ : World.drewN w4 _ = w4; have n0_ : Aside0 (w4.heap[gb406]? = some (.cells #[.int .i64 0, .string (⟨#[]⟩ : ByteArray)] 49 (0, 0))) := ⟨by rw [← hq_]; exact (BD BK406)⟩; have n1_ : Aside0 (Below w.heap.size w w4) := ⟨by rw [← hq_]; exact BG⟩; clear BK406 HB hq_; have BK406 := n0_; have HB := n1_; clear n0_ n1_)); obtain ⟨hcz5_0, hcz5_1, hfz5_0, hfz5_1⟩ := bk2 BK406.out))
 refine bodyPost_ret (results_cell_row rfl _ _ gb406 49 #[.int .i64 t408, .string a0] (0, 0) _ rfl (by refine PX ?_; refine blk_put (cs := #[.int .i64 t408, .string (⟨#[]⟩ : ByteArray)]) ?_ 1 _ rfl; refine PX ?_; refine blk_put (cs := #[.int .i64 0, .string (⟨#[]⟩ : ByteArray)]) ?_ 0 _ rfl; exact BD BK406) Try.underlying49 rfl (by kernel_rfl)) rfl ?_
 exact ⟨ER, BG⟩
def slices_BinarySearchFunc_impl_Entry_impl_Entry_impl_Entry.l0 : Nat → List (S49) → Int → Int → Int → Int → ByteArray → Option (Int × Bool)
 | 0, _, _, _, _, _, _ => none
 | k + 1, x0, x8, x9, x10, x410000, x410001 => if x9 < x10 then (if 0 ≤ (wrap64 ((IntKind.u64.wrap (wrap64 (x9 + x10))) / 2)) then (if (wrap64 ((IntKind.u64.wrap (wrap64 (x9 + x10))) / 2)) < (x0.length : Int) then ((impl_compareEntries.f k ((rd_T49 x0 (wrap64 ((IntKind.u64.wrap (wrap64 (x9 + x10))) / 2))).f0) ((rd_T49 x0 (wrap64 ((IntKind.u64.wrap (wrap64 (x9 + x10))) / 2))).f1) x410000 x410001).bind fun t411 => (if t411 < 0 then (slices_BinarySearchFunc_impl_Entry_impl_Entry_impl_Entry.l0 k x0 x8 (wrap64 ((wrap64 ((IntKind.u64.wrap (wrap64 (x9 + x10))) / 2)) + 1)) x10 x410000 x410001) else (slices_BinarySearchFunc_impl_Entry_impl_Entry_impl_Entry.l0 k x0 x8 x9 (wrap64 ((IntKind.u64.wrap (wrap64 (x9 + x10))) / 2)) x410000 x410001))) else (none)) else (none)) else (if x9 < x8 then (if 0 ≤ x9 then (if x9 < (x0.length : Int) then ((impl_compareEntries.f k ((rd_T49 x0 x9).f0) ((rd_T49 x0 x9).f1) x410000 x410001).bind fun t413 => (some (x9, (t413 == 0)))) else (none)) else (none)) else (some (x9, false)))
def slices_BinarySearchFunc_impl_Entry_impl_Entry_impl_Entry.f (k : Nat) (l0 : List (S49)) (a1_0 : Int) (a1_1 : ByteArray) (a2 : Unit) : Option (Int × Bool) := slices_BinarySearchFunc_impl_Entry_impl_Entry_impl_Entry.l0 k l0 (l0.length : Int) 0 (l0.length : Int) a1_0 a1_1
theorem slices_BinarySearchFunc_impl_Entry_impl_Entry_impl_Entry.mono_l : ∀ k, (∀ y0 y1 y2 y3 y4 y5, LeO (slices_BinarySearchFunc_impl_Entry_impl_Entry_impl_Entry.l0 k y0 y1 y2 y3 y4 y5) (slices_BinarySearchFunc_impl_Entry_impl_Entry_impl_Entry.l0 (k + 1) y0 y1 y2 y3 y4 y5))
 | 0 => fun _ _ _ _ _ _ r h => by simp [slices_BinarySearchFunc_impl_Entry_impl_Entry_impl_Entry.l0] at h
 | k + 1 => by
  have ih0 := slices_BinarySearchFunc_impl_Entry_impl_Entry_impl_Entry.mono_l k
  ·intro y0 y1 y2 y3 y4 y5
   unfold slices_BinarySearchFunc_impl_Entry_impl_Entry_impl_Entry.l0
   repeat' first | (with_reducible first | exact ih0 _ _ _ _ _ _ | exact impl_compareEntries.mono _ _ _ _ _ | exact LeO.refl _ | exact LeO.none _ | refine LeO.ite ?_ ?_ | refine LeO.bind ?_ (fun _ => ?_)) | exact ih0 _ _ _ _ _ _ | exact impl_compareEntries.mono _ _ _ _ _ | exact LeO.none _ | refine LeO.ite ?_ ?_ | refine LeO.bind ?_ (fun _ => ?_)
theorem slices_BinarySearchFunc_impl_Entry_impl_Entry_impl_Entry.mono : ∀ a0 a1 a2 a3 k, LeO (slices_BinarySearchFunc_impl_Entry_impl_Entry_impl_Entry.f k a0 a1 a2 a3) (slices_BinarySearchFunc_impl_Entry_impl_Entry_impl_Entry.f (k + 1) a0 a1 a2 a3) := by
 intro a0 a1 a2 a3 k
 have ih0 := slices_BinarySearchFunc_impl_Entry_impl_Entry_impl_Entry.mono_l k
 unfold slices_BinarySearchFunc_impl_Entry_impl_Entry_impl_Entry.f
 repeat' first | (with_reducible first | exact ih0 _ _ _ _ _ _ | exact impl_compareEntries.mono _ _ _ _ _ | exact LeO.refl _ | exact LeO.none _ | refine LeO.ite ?_ ?_ | refine LeO.bind ?_ (fun _ => ?_)) | exact ih0 _ _ _ _ _ _ | exact impl_compareEntries.mono _ _ _ _ _ | exact LeO.none _ | refine LeO.ite ?_ ?_ | refine LeO.bind ?_ (fun _ => ?_)
def slices_BinarySearchFunc_impl_Entry_impl_Entry_impl_Entry.T5 : Bool × List (List Nat × List Nat) := (true, [([], []), ([], []), ([], []), ([1, 2], [1, 2]), ([3], [3]), ([], []), ([0, 4, 5], [0, 4, 5]), ([6], [6])])
def slices_BinarySearchFunc_impl_Entry_impl_Entry_impl_Entry.B5 : List Nat := [0, 0, 0, 6, 14, 0, 63, 127]
theorem slices_BinarySearchFunc_impl_Entry_impl_Entry_impl_Entry.tab5 : rtab .any (opsOf Try.f50 5) = slices_BinarySearchFunc_impl_Entry_impl_Entry_impl_Entry.T5 := by kernel_rfl
theorem slices_BinarySearchFunc_impl_Entry_impl_Entry_impl_Entry.bits5 : waitsOk slices_BinarySearchFunc_impl_Entry_impl_Entry_impl_Entry.T5.2 slices_BinarySearchFunc_impl_Entry_impl_Entry_impl_Entry.B5 = true := by kernel_rfl
def slices_BinarySearchFunc_impl_Entry_impl_Entry_impl_Entry.T8 : Bool × List (List Nat × List Nat) := (true, [([], []), ([], []), ([], []), ([1, 2], [1, 2]), ([3], [3]), ([4], [4]), ([4], [4]), ([4], [4]), ([6, 7, 4], [4, 6, 7]), ([8, 4], [4, 8]), ([4], [4]), ([5, 9, 10, 4, 4], [4, 5, 9, 10]), ([11, 4], [4, 11]), ([4, 12], [4, 12]), ([0, 11, 0], [0]), ([13, 14, 0, 1, 2, 3, 4, 5, 6, 7, 8, 9, 10, 11, 12, 13, 14], [13])])
def slices_BinarySearchFunc_impl_Entry_impl_Entry_impl_Entry.B8 : List Nat := [0, 0, 0, 6, 14, 30, 30, 30, 222, 478, 30, 2046, 4094, 8190, 4095, 32767]
theorem slices_BinarySearchFunc_impl_Entry_impl_Entry_impl_Entry.tab8 : rtab .any (opsOf Try.f50 8) = slices_BinarySearchFunc_impl_Entry_impl_Entry_impl_Entry.T8 := by kernel_rfl
theorem slices_BinarySearchFunc_impl_Entry_impl_Entry_impl_Entry.bits8 : waitsOk slices_BinarySearchFunc_impl_Entry_impl_Entry_impl_Entry.T8.2 slices_BinarySearchFunc_impl_Entry_impl_Entry_impl_Entry.B8 = true := by kernel_rfl
theorem slices_BinarySearchFunc_impl_Entry_impl_Entry_impl_Entry.z0 {P : Prop} (h : P := by repeat (first | (with_reducible first | exact HB.out | apply below_alloc | apply pw_below_drewN | apply below_drew1 | refine below_set ?_ GE409.out) | exact HB.out)) : P := h
set_option maxHeartbeats 8000000 in
set_option maxRecDepth 100000 in
theorem slices_BinarySearchFunc_impl_Entry_impl_Entry_impl_Entry.calls (k : Nat) (A0 : Option Addr) (c0 : Nat) (l0 : List (S49)) (a1_0 : Int) (a1_1 : ByteArray) (a2 : Unit) (r1 : Int) (r2 : Bool) (w : World) (hr0 : Kd.C k49 w A0 l0.length l0) (hc0 : l0.length ≤ c0) (h : slices_BinarySearchFunc_impl_Entry_impl_Entry_impl_Entry.f k l0 a1_0 a1_1 a2 = some (r1, r2)) :
  Calls Try.prog 50 #[.slice A0 l0.length c0, .agg #[.int .i64 a1_0, .string a1_1], .func (.func 25) #[] #[]] w fun e w' => e = .returned (.tuple #[.int .i64 r1, .bool r2]) ∧ Below w.heap.size w w' := by
 have hu49 := Try.underlying49
 have HR0 := Aside0.mk hr0
 have HC0 := Aside0.mk hc0
 clear hr0 hc0
 have HB := Aside0.mk (Below.refl w.heap.size w)
 have H : (slices_BinarySearchFunc_impl_Entry_impl_Entry_impl_Entry.l0 k l0 (l0.length : Int) 0 (l0.length : Int) a1_0 a1_1) = some (r1, r2) := h
 clear h
 have H' := Aside0.mk H
 clear H
 go_enter Try.func50, Try.ntmps50
 go_wp2_with (first | ((with_reducible refine gate_dst (N := 4) rfl ?_); refine box_event ?hg (N := 4) ?hd (cs := #[.int .i64 a1_0, .string a1_1]) (t := 49) ?hr ?_; (case hd => rfl); (case hg => rfl); (case hr => first | (go_simp; done) | (go_simp; rfl)); intro gb409 hg w4 hbox hb; have n_ : _ ∧ _ ∧ _ ∧ _ := ⟨AsM (below_step BL hb), AsM (hbox), AsM ((GL : w.heap.size ≤ gb409)), AsM ((GL : w.heap.size ≤ gb409))⟩; clear HB; obtain ⟨HB, BK409, GW409, GE409⟩ := n_; clear hb hbox hg))
 go_loopg [9, 10] k (fun kq v9 v10 w' => ∃ (x9_1 : Int) (x10_1 : Int), v9 = .int .i64 x9_1 ∧ v10 = .int .i64 x10_1 ∧ Aside0 (slices_BinarySearchFunc_impl_Entry_impl_Entry_impl_Entry.l0 kq l0 (l0.length : Int) x9_1 x10_1 a1_0 a1_1 = some (r1, r2)) ∧ Aside0 (kq ≤ k) ∧ Aside0 (w'.heap[gb409]? = some (.cells #[.int .i64 a1_0, .string a1_1] 49 (0, 0))) ∧ Aside0 (Below w.heap.size w w'))
 case atStart => exact ⟨(0), ((l0.length : Int)), RS, RS, H', ⟨Nat.le_refl _⟩, ⟨BD BK409⟩, ⟨slices_BinarySearchFunc_impl_Entry_impl_Entry_impl_Entry.z0⟩⟩
 case round =>
  clear H'
  try clear p2
  obtain ⟨x9_1, x10_1, rfl, rfl, HA, HK1, BK409, HB⟩ := hrel
  cases gk with
  | zero => exact absurd HA.out (by simp [slices_BinarySearchFunc_impl_Entry_impl_Entry_impl_Entry.l0])
  | succ k1 =>
   have H := HA.out
   clear HA
   simp only [slices_BinarySearchFunc_impl_Entry_impl_Entry_impl_Entry.l0] at H
   by_cases c5 : x9_1 < x10_1
   ·rw [if_pos c5] at H
    have c5b0 : decide (x9_1 < x10_1) = true := decide_eq_true c5
    clear c5
    obtain ⟨ji6, hji6⟩ : ∃ j_ : Int, (wrap64 ((IntKind.u64.wrap (wrap64 (x9_1 + x10_1))) / 2)) = j_ := ⟨_, rfl⟩
    replace H : (if 0 ≤ (ji6) then (if (ji6) < (l0.length : Int) then ((impl_compareEntries.f k1 ((rd_T49 l0 (ji6)).f0) ((rd_T49 l0 (ji6)).f1) a1_0 a1_1).bind fun t411 => (if t411 < 0 then (slices_BinarySearchFunc_impl_Entry_impl_Entry_impl_Entry.l0 k1 l0 (l0.length : Int) (wrap64 ((ji6) + 1)) x10_1 a1_0 a1_1) else (slices_BinarySearchFunc_impl_Entry_impl_Entry_impl_Entry.l0 k1 l0 (l0.length : Int) x9_1 ji6 a1_0 a1_1))) else (none)) else (none)) = some (r1, r2) := by first | (rw [hji6] at H; exact H) | (simp only [hji6] at H ⊢; exact H)
    have hji6w : (IntKind.i64.wrap ((IntKind.u64.wrap (wrap64 (x9_1 + x10_1))) / 2)) = ji6 := (i64_w _).trans hji6
    by_cases c7 : 0 ≤ (ji6)
    ·rw [if_pos c7] at H
     have c7b0 : decide (0 ≤ (ji6)) = true := decide_eq_true c7
     clear c7
     by_cases c8 : (ji6) < (l0.length : Int)
     ·rw [if_pos c8] at H
      have c8b0 : decide ((ji6) < (l0.length : Int)) = true := decide_eq_true c8
      clear c8
      replace H := BS H
      obtain ⟨t411, A90, H⟩ := H
      have A9 := Aside0.mk A90
      clear A90
      by_cases c10 : t411 < 0
      ·rw [if_pos c10] at H
       have c10b0 : decide (t411 < 0) = true := decide_eq_true c10
       clear c10
       have H' := Aside0.mk H
       clear H
       try go_wp2
       have n_ : _ ∧ _ := ⟨AsM (blk_drew BK409.out), AsM (below_drew1 HB.out)⟩
       clear BK409 HB
       obtain ⟨BK409, HB⟩ := n_
       have p410 : 0 ≤ ((ji6) : Int) := of_decide_eq_true AS
       have q410 : (ji6) < (l0.length : Int) := of_decide_eq_true AS
       obtain ⟨ad410, e410, hx410_0, hx410_1⟩ := at_T49 HR0.out (ji6) p410 q410
       have hw410_1 := hx410_1
       have hw410_0 := hx410_0
       cases e410
       replace hx410_0 := (HB.out.cell (World.block_lt_of_cell? w _ hx410_0)).trans hx410_0
       replace hx410_1 := (HB.out.cell (World.block_lt_of_cell? w _ hx410_1)).trans hx410_1
       replace p410 := eq_true p410
       replace q410 := eq_true q410
       refine start_ (n := 8) (S := fun w' => w'.cell? ⟨gb409, 0, none⟩ = some (.int .i64 a1_0) ∧ w'.cell? ⟨gb409, 1, none⟩ = some (.string a1_1) ∧ w'.cell? (ad410.add (((ji6)).toNat * 2)) = some (.int .i64 ((rd_T49 l0 (ji6)).f0)) ∧ w'.cell? ⟨(ad410.add (((ji6)).toNat * 2)).block, (ad410.add (((ji6)).toNat * 2)).off + 1, none⟩ = some (.string ((rd_T49 l0 (ji6)).f1))) (ds := []) #[false, false, false, false, false, false, false, false] (by kernel_rfl) rfl rfl ⟨(blk_cell BK409.out 0).trans rfl, (blk_cell BK409.out 1).trans rfl, ((HB.out.cell (World.block_lt_of_cell? w _ hw410_0)).trans hw410_0), ((HB.out.cell (World.block_lt_of_cell? w _ hw410_1)).trans hw410_1)⟩ (fun hHeld => ?_); refine with_tabW slices_BinarySearchFunc_impl_Entry_impl_Entry_impl_Entry.tab5 slices_BinarySearchFunc_impl_Entry_impl_Entry_impl_Entry.bits5 (fun HT_ HW_ => ?_)
       generalize wr.drew = w11 at BK409 HB hx410_0 hx410_1 hHeld ⊢
       refine PU (i := 0) (N := some 24) (tf 1 7) rfl rfl HT_ ?_
       refine PU (i := 1) (N := some 25) (tf 2 6) rfl rfl HT_ ?_
       refine PU (i := 2) (N := some 26) (tf 3 5) rfl rfl HT_ ?_
       refine PU (i := 3) (N := some 27) (tf 4 4) rfl rfl HT_ ?_
       refine PT (i := 4) (N := some 28) (tf 5 3) rfl rfl HT_ HW_ hHeld ?_
       refine PT (i := 5) (N := some 29) (tf 6 2) rfl rfl HT_ HW_ hHeld ?_
       refine one_ (i := 6) (N := some 30) (tf 7 1) rfl rfl (one_of HT_.out (by kernel_rfl)) (by decide) (fun K hK => ?_)
       refine goesF_ 24 (by rfl) Try.func25 (by kernel_rfl) rfl #[.agg #[.int .i64 ((rd_T49 l0 (ji6)).f0), .string ((rd_T49 l0 (ji6)).f1)], .agg #[.int .i64 a1_0, .string a1_1]] (by rfl) rfl rfl (by (try simp only [List.map_toArray, List.map_cons, List.map_nil]); first | done | (simp only [hji6]; rfl) | rfl | (simp only [List.length_drop, List.length_take]; rfl)) ?_
       with_reducible refine (impl_compareEntries.calls k1 ((rd_T49 l0 (ji6)).f0) ((rd_T49 l0 (ji6)).f1) a1_0 a1_1 t411 _ A9.out).mono ?_
       rintro e w12 ⟨rfl, hb⟩
       refine ⟨_, rfl, ?_⟩
       have n_ : _ ∧ _ := ⟨AsM (blk_below (BD BK409) hb), AsM (below_step BG hb)⟩
       clear BK409 HB
       obtain ⟨BK409, HB⟩ := n_
       (try clear hb)
       (try clear hb2)
       (try clear hk)
       (try clear hi)
       refine hK.out _ _ ⟨(blk_cell BK409.out 0).trans rfl, (blk_cell BK409.out 1).trans rfl, ((HB.out.cell (World.block_lt_of_cell? w _ hw410_0)).trans hw410_0), ((HB.out.cell (World.block_lt_of_cell? w _ hw410_1)).trans hw410_1)⟩ (fun hHeld => ?_)
       clear hK K
       refine NM (some 30) ?_
       refine PU (i := 7) (N := some 31) (tf 8 0) rfl rfl HT_ ?_
       refine done_ (done_of HT_.out (by kernel_rfl)) ?_
       try go_wp2
       go_roundg k1
       case measure => have := HK1.out; omega
       case rel => exact ⟨(wrap64 ((ji6) + 1)), (x10_1), (by first | rfl | (simp; done) | (simp only [← hji6] <;> (first | rfl | simp)) | (simp [*]; done)), RS, H', ⟨by have := HK1.out; omega⟩, ⟨BD BK409⟩, ⟨slices_BinarySearchFunc_impl_Entry_impl_Entry_impl_Entry.z0⟩⟩
      ·rw [if_neg c10] at H
       have c10b0 : decide (t411 < 0) = false := decide_eq_false c10
       clear c10
       have H' := Aside0.mk H
       clear H
       try go_wp2
       have n_ : _ ∧ _ := ⟨AsM (blk_drew BK409.out), AsM (below_drew1 HB.out)⟩
       clear BK409 HB
       obtain ⟨BK409, HB⟩ := n_
       have p410 : 0 ≤ ((ji6) : Int) := of_decide_eq_true AS
       have q410 : (ji6) < (l0.length : Int) := of_decide_eq_true AS
       obtain ⟨ad410, e410, hx410_0, hx410_1⟩ := at_T49 HR0.out (ji6) p410 q410
       have hw410_1 := hx410_1
       have hw410_0 := hx410_0
       cases e410
       replace hx410_0 := (HB.out.cell (World.block_lt_of_cell? w _ hx410_0)).trans hx410_0
       replace hx410_1 := (HB.out.cell (World.block_lt_of_cell? w _ hx410_1)).trans hx410_1
       replace p410 := eq_true p410
       replace q410 := eq_true q410
       refine start_ (n := 8) (S := fun w' => w'.cell? ⟨gb409, 0, none⟩ = some (.int .i64 a1_0) ∧ w'.cell? ⟨gb409, 1, none⟩ = some (.string a1_1) ∧ w'.cell? (ad410.add (((ji6)).toNat * 2)) = some (.int .i64 ((rd_T49 l0 (ji6)).f0)) ∧ w'.cell? ⟨(ad410.add (((ji6)).toNat * 2)).block, (ad410.add (((ji6)).toNat * 2)).off + 1, none⟩ = some (.string ((rd_T49 l0 (ji6)).f1))) (ds := []) #[false, false, false, false, false, false, false, false] (by kernel_rfl) rfl rfl ⟨(blk_cell BK409.out 0).trans rfl, (blk_cell BK409.out 1).trans rfl, ((HB.out.cell (World.block_lt_of_cell? w _ hw410_0)).trans hw410_0), ((HB.out.cell (World.block_lt_of_cell? w _ hw410_1)).trans hw410_1)⟩ (fun hHeld => ?_); refine with_tabW slices_BinarySearchFunc_impl_Entry_impl_Entry_impl_Entry.tab5 slices_BinarySearchFunc_impl_Entry_impl_Entry_impl_Entry.bits5 (fun HT_ HW_ => ?_)
       generalize wr.drew = w13 at BK409 HB hx410_0 hx410_1 hHeld ⊢
       refine PU (i := 0) (N := some 24) (tf 1 7) rfl rfl HT_ ?_
       refine PU (i := 1) (N := some 25) (tf 2 6) rfl rfl HT_ ?_
       refine PU (i := 2) (N := some 26) (tf 3 5) rfl rfl HT_ ?_
       refine PU (i := 3) (N := some 27) (tf 4 4) rfl rfl HT_ ?_
       refine PT (i := 4) (N := some 28) (tf 5 3) rfl rfl HT_ HW_ hHeld ?_
       refine PT (i := 5) (N := some 29) (tf 6 2) rfl rfl HT_ HW_ hHeld ?_
       refine one_ (i := 6) (N := some 30) (tf 7 1) rfl rfl (one_of HT_.out (by kernel_rfl)) (by decide) (fun K hK => ?_)
       refine goesF_ 24 (by rfl) Try.func25 (by kernel_rfl) rfl #[.agg #[.int .i64 ((rd_T49 l0 (ji6)).f0), .string ((rd_T49 l0 (ji6)).f1)], .agg #[.int .i64 a1_0, .string a1_1]] (by rfl) rfl rfl (by (try simp only [List.map_toArray, List.map_cons, List.map_nil]); first | done | (simp only [hji6]; rfl) | rfl | (simp only [List.length_drop, List.length_take]; rfl)) ?_
       with_reducible refine (impl_compareEntries.calls k1 ((rd_T49 l0 (ji6)).f0) ((rd_T49 l0 (ji6)).f1) a1_0 a1_1 t411 _ A9.out).mono ?_
       rintro e w14 ⟨rfl, hb⟩
       refine ⟨_, rfl, ?_⟩
       have n_ : _ ∧ _ := ⟨AsM (blk_below (BD BK409) hb), AsM (below_step BG hb)⟩
       clear BK409 HB
       obtain ⟨BK409, HB⟩ := n_
       (try clear hb)
       (try clear hb2)
       (try clear hk)
       (try clear hi)
       refine hK.out _ _ ⟨(blk_cell BK409.out 0).trans rfl, (blk_cell BK409.out 1).trans rfl, ((HB.out.cell (World.block_lt_of_cell? w _ hw410_0)).trans hw410_0), ((HB.out.cell (World.block_lt_of_cell? w _ hw410_1)).trans hw410_1)⟩ (fun hHeld => ?_)
       clear hK K
       refine NM (some 30) ?_
       refine PU (i := 7) (N := some 31) (tf 8 0) rfl rfl HT_ ?_
       refine done_ (done_of HT_.out (by kernel_rfl)) ?_
       try go_wp2
       go_roundg k1
       case measure => have := HK1.out; omega
       case rel => exact ⟨(x9_1), (ji6), RS, (by first | rfl | (simp; done) | (simp only [← hji6] <;> (first | rfl | simp)) | (simp [*]; done)), H', ⟨by have := HK1.out; omega⟩, ⟨BD BK409⟩, ⟨slices_BinarySearchFunc_impl_Entry_impl_Entry_impl_Entry.z0⟩⟩
     ·rw [if_neg c8] at H
      exact absurd H (by simp)
    ·rw [if_neg c7] at H
     exact absurd H (by simp)
   ·rw [if_neg c5] at H
    have c5b0 : decide (x9_1 < x10_1) = false := decide_eq_false c5
    clear c5
    by_cases c15 : x9_1 < (l0.length : Int)
    ·rw [if_pos c15] at H
     have c15b0 : decide (x9_1 < (l0.length : Int)) = true := decide_eq_true c15
     clear c15
     by_cases c16 : 0 ≤ x9_1
     ·rw [if_pos c16] at H
      have c16b0 : decide (0 ≤ x9_1) = true := decide_eq_true c16
      clear c16
      by_cases c17 : x9_1 < (l0.length : Int)
      ·rw [if_pos c17] at H
       have c17b0 : decide (x9_1 < (l0.length : Int)) = true := decide_eq_true c17
       clear c17
       replace H := BS H
       obtain ⟨t413, A180, H⟩ := H
       have A18 := Aside0.mk A180
       clear A180
       simp only [Option.some.injEq, Prod.mk.injEq] at H
       obtain ⟨rfl, rfl⟩ := H
       try go_wp2
       have n_ : _ ∧ _ := ⟨AsM (blk_drew BK409.out), AsM (below_drew1 HB.out)⟩
       clear BK409 HB
       obtain ⟨BK409, HB⟩ := n_
       have p412 : 0 ≤ (x9_1 : Int) := of_decide_eq_true AS
       have q412 : x9_1 < (l0.length : Int) := of_decide_eq_true AS
       obtain ⟨ad412, e412, hx412_0, hx412_1⟩ := at_T49 HR0.out x9_1 p412 q412
       have hw412_1 := hx412_1
       have hw412_0 := hx412_0
       cases e412
       replace hx412_0 := (HB.out.cell (World.block_lt_of_cell? w _ hx412_0)).trans hx412_0
       replace hx412_1 := (HB.out.cell (World.block_lt_of_cell? w _ hx412_1)).trans hx412_1
       replace p412 := eq_true p412
       replace q412 := eq_true q412
       refine start_ (n := 16) (S := fun w' => w'.cell? ⟨gb409, 0, none⟩ = some (.int .i64 a1_0) ∧ w'.cell? ⟨gb409, 1, none⟩ = some (.string a1_1) ∧ w'.cell? (ad412.add ((x9_1).toNat * 2)) = some (.int .i64 ((rd_T49 l0 x9_1).f0)) ∧ w'.cell? ⟨(ad412.add ((x9_1).toNat * 2)).block, (ad412.add ((x9_1).toNat * 2)).off + 1, none⟩ = some (.string ((rd_T49 l0 x9_1).f1))) (ds := []) #[false, false, false, false, false, false, false, false, false, false, false, false, false, false, false, false] (by kernel_rfl) rfl rfl ⟨(blk_cell BK409.out 0).trans rfl, (blk_cell BK409.out 1).trans rfl, ((HB.out.cell (World.block_lt_of_cell? w _ hw412_0)).trans hw412_0), ((HB.out.cell (World.block_lt_of_cell? w _ hw412_1)).trans hw412_1)⟩ (fun hHeld => ?_); refine with_tabW slices_BinarySearchFunc_impl_Entry_impl_Entry_impl_Entry.tab8 slices_BinarySearchFunc_impl_Entry_impl_Entry_impl_Entry.bits8 (fun HT_ HW_ => ?_)
       generalize wr.drew = w19 at BK409 HB hx412_0 hx412_1 hHeld ⊢
       refine PU (i := 0) (N := some 35) (tf 1 15) rfl rfl HT_ ?_
       refine PU (i := 1) (N := some 36) (tf 2 14) rfl rfl HT_ ?_
       refine PU (i := 2) (N := some 37) (tf 3 13) rfl rfl HT_ ?_
       refine PU (i := 3) (N := some 38) (tf 4 12) rfl rfl HT_ ?_
       refine PU (i := 4) (N := some 39) (tf 5 11) rfl rfl HT_ ?_
       refine PU (i := 5) (N := some 40) (tf 6 10) rfl rfl HT_ ?_
       refine PU (i := 6) (N := some 41) (tf 7 9) rfl rfl HT_ ?_
       refine PU (i := 7) (N := some 42) (tf 8 8) rfl rfl HT_ ?_
       refine PU (i := 8) (N := some 43) (tf 9 7) rfl rfl HT_ ?_
       refine PT (i := 9) (N := some 44) (tf 10 6) rfl rfl HT_ HW_ hHeld ?_
       refine PT (i := 10) (N := some 45) (tf 11 5) rfl rfl HT_ HW_ hHeld ?_
       refine one_ (i := 11) (N := some 46) (tf 12 4) rfl rfl (one_of HT_.out (by kernel_rfl)) (by decide) (fun K hK => ?_)
       refine goesF_ 40 (by rfl) Try.func25 (by kernel_rfl) rfl #[.agg #[.int .i64 ((rd_T49 l0 x9_1).f0), .string ((rd_T49 l0 x9_1).f1)], .agg #[.int .i64 a1_0, .string a1_1]] (by rfl) rfl rfl AQ ?_
       with_reducible refine (impl_compareEntries.calls k1 ((rd_T49 l0 x9_1).f0) ((rd_T49 l0 x9_1).f1) a1_0 a1_1 t413 _ A18.out).mono ?_
       rintro e w20 ⟨rfl, hb⟩
       refine ⟨_, rfl, ?_⟩
       have n_ : _ ∧ _ := ⟨AsM (blk_below (BD BK409) hb), AsM (below_step BG hb)⟩
       clear BK409 HB
       obtain ⟨BK409, HB⟩ := n_
       (try clear hb)
       (try clear hb2)
       (try clear hk)
       (try clear hi)
       refine hK.out _ _ ⟨(blk_cell BK409.out 0).trans rfl, (blk_cell BK409.out 1).trans rfl, ((HB.out.cell (World.block_lt_of_cell? w _ hw412_0)).trans hw412_0), ((HB.out.cell (World.block_lt_of_cell? w _ hw412_1)).trans hw412_1)⟩ (fun hHeld => ?_)
       clear hK K
       refine NM (some 46) ?_
       refine PU (i := 12) (N := some 47) (tf 13 3) rfl rfl HT_ ?_
       refine PU (i := 13) (N := some 48) (tf 14 2) rfl rfl HT_ ?_
       refine PU (i := 14) (N := some 6) (tf 15 1) rfl rfl HT_ ?_
       refine PU (i := 15) (N := some 7) (tf 16 0) rfl rfl HT_ ?_
       refine done_ (done_of HT_.out (by kernel_rfl)) ?_
       try go_wp2
       go_ret2
       exact ⟨ER, BG⟩
      ·rw [if_neg c17] at H
       exact absurd H (by simp)
     ·rw [if_neg c16] at H
      exact absurd H (by simp)
    ·rw [if_neg c15] at H
     have c15b0 : decide (x9_1 < (l0.length : Int)) = false := decide_eq_false c15
     clear c15
     simp only [Option.some.injEq, Prod.mk.injEq] at H
     obtain ⟨rfl, rfl⟩ := H
     try go_wp2
     have n_ : _ ∧ _ := ⟨AsM (blk_drew BK409.out), AsM (below_drew1 HB.out)⟩
     clear BK409 HB
     obtain ⟨BK409, HB⟩ := n_
     refine start_ (n := 16) (S := fun w' => True) (ds := []) #[false, false, false, false, false, false, false, false, false, false, false, false, false, false, false, false] (by kernel_rfl) rfl rfl trivial (fun hHeld => ?_); refine with_tabW slices_BinarySearchFunc_impl_Entry_impl_Entry_impl_Entry.tab8 slices_BinarySearchFunc_impl_Entry_impl_Entry_impl_Entry.bits8 (fun HT_ HW_ => ?_)
     generalize wr.drew = w21 at BK409 HB hHeld ⊢
     refine PU (i := 0) (N := some 35) (tf 1 15) rfl rfl HT_ ?_
     refine PU (i := 1) (N := some 36) (tf 2 14) rfl rfl HT_ ?_
     refine PU (i := 2) (N := some 37) (tf 3 13) rfl rfl HT_ ?_
     refine PU (i := 3) (N := some 38) (tf 4 12) rfl rfl HT_ ?_
     refine PU (i := 4) (N := some 39) (tf 5 11) rfl rfl HT_ ?_
     refine PN (i := 5) (N := some 40) (tf 6 10) rfl rfl HT_ ?_
     refine PN (i := 6) (N := some 41) (tf 7 9) rfl rfl HT_ ?_
     refine PN (i := 7) (N := some 42) (tf 8 8) rfl rfl HT_ ?_
     refine PN (i := 8) (N := some 43) (tf 9 7) rfl rfl HT_ ?_
     refine PN (i := 9) (N := some 44) (tf 10 6) rfl rfl HT_ ?_
     refine PN (i := 10) (N := some 45) (tf 11 5) rfl rfl HT_ ?_
     refine PN (i := 11) (N := some 46) (tf 12 4) rfl rfl HT_ ?_
     refine PN (i := 12) (N := some 47) (tf 13 3) rfl rfl HT_ ?_
     refine PU (i := 13) (N := some 48) (tf 14 2) rfl rfl HT_ ?_
     refine PU (i := 14) (N := some 6) (tf 15 1) rfl rfl HT_ ?_
     refine PU (i := 15) (N := some 7) (tf 16 0) rfl rfl HT_ ?_
     refine done_ (done_of HT_.out (by kernel_rfl)) ?_
     try go_wp2
     go_ret2
     exact ⟨ER, BG⟩
def impl_Table_place.f (k : Nat) (a0_0 : Int) (l0_1 : List (S49)) (a1_0 : Int) (a1_1 : ByteArray) : Option (Int × Bool) := (slices_BinarySearchFunc_impl_Entry_impl_Entry_impl_Entry.f k l0_1 a1_0 a1_1 ()).bind fun bt416 => (some (bt416.1, bt416.2))
theorem impl_Table_place.mono : ∀ a0 a1 a2 a3 k, LeO (impl_Table_place.f k a0 a1 a2 a3) (impl_Table_place.f (k + 1) a0 a1 a2 a3) := by
 intro a0 a1 a2 a3 k
 unfold impl_Table_place.f
 repeat' first | (with_reducible first | exact slices_BinarySearchFunc_impl_Entry_impl_Entry_impl_Entry.mono _ _ _ _ _ | exact LeO.refl _ | exact LeO.none _ | refine LeO.ite ?_ ?_ | refine LeO.bind ?_ (fun _ => ?_)) | exact slices_BinarySearchFunc_impl_Entry_impl_Entry_impl_Entry.mono _ _ _ _ _ | exact LeO.none _ | refine LeO.ite ?_ ?_ | refine LeO.bind ?_ (fun _ => ?_)
set_option maxHeartbeats 8000000 in
set_option maxRecDepth 100000 in
theorem impl_Table_place.calls (k : Nat) (a0_0 : Int) (A0_1 : Option Addr) (c0_1 : Nat) (l0_1 : List (S49)) (a1_0 : Int) (a1_1 : ByteArray) (r1 : Int) (r2 : Bool) (w : World) (hr0_1 : Kd.C k49 w A0_1 l0_1.length l0_1) (hc0_1 : l0_1.length ≤ c0_1) (h : impl_Table_place.f k a0_0 l0_1 a1_0 a1_1 = some (r1, r2)) :
  Calls Try.prog 34 #[.agg #[.int .i64 a0_0, .slice A0_1 l0_1.length c0_1], .agg #[.int .i64 a1_0, .string a1_1]] w fun e w' => e = .returned (.tuple #[.int .i64 r1, .bool r2]) ∧ Below w.heap.size w w' := by
 have hu25 := Try.underlying25
 have hu49 := Try.underlying49
 have HR0_1 := Aside0.mk hr0_1
 have HC0_1 := Aside0.mk hc0_1
 clear hr0_1 hc0_1
 have HB := Aside0.mk (Below.refl w.heap.size w)
 have H : ((slices_BinarySearchFunc_impl_Entry_impl_Entry_impl_Entry.f k l0_1 a1_0 a1_1 ()).bind fun bt416 => (some (bt416.1, bt416.2))) = some (r1, r2) := h
 clear h
 replace H := BS H
 obtain ⟨⟨t416, t417⟩, A30, H⟩ := H
 have A3 := Aside0.mk A30
 clear A30
 simp only [Option.some.injEq, Prod.mk.injEq] at H
 obtain ⟨rfl, rfl⟩ := H
 go_enter Try.func34, Try.ntmps34
 go_wp2_with (first | ((with_reducible refine gate_dst (N := 2) rfl ?_); refine box_event ?hg (N := 2) ?hd (cs := #[.int .i64 a0_0, .slice A0_1 l0_1.length c0_1]) (t := 25) ?hr ?_; (case hd => rfl); (case hg => rfl); (case hr => first | (go_simp; done) | (go_simp; rfl)); intro gb414 hg w4 hbox hb; have n_ : _ ∧ _ ∧ _ ∧ _ := ⟨AsM (below_step BL hb), AsM (hbox), AsM ((GL : w.heap.size ≤ gb414)), AsM ((GL : w.heap.size ≤ gb414))⟩; clear HB; obtain ⟨HB, BK414, GW414, GE414⟩ := n_; clear hb hbox hg) | ((with_reducible refine gate_dst (N := 3) rfl ?_); refine box_event ?hg (N := 3) ?hd (cs := #[.int .i64 a1_0, .string a1_1]) (t := 49) ?hr ?_; (case hd => rfl); (case hg => rfl); (case hr => first | (go_simp; done) | (go_simp; rfl)); intro gb415 hg w5 hbox hb; have n_ : _ ∧ _ ∧ _ ∧ _ ∧ _ ∧ _ ∧ _ := ⟨AsM (blk_below (BD BK414) hb), AsM (below_step BG hb), AsM (hbox), AsM ((GM : w.heap.size ≤ gb415)), AsM ((GM : w.heap.size ≤ gb415)), AsM ((by rw [hg]; exact Nat.ne_of_lt (blk_lt (BD BK414)) : gb414 ≠ gb415)), AsM ((by rw [hg]; exact Nat.ne_of_gt (blk_lt (BD BK414)) : gb415 ≠ gb414))⟩; clear BK414 HB; obtain ⟨BK414, HB, BK415, GW415, GE415, NB414_415, NB415_414⟩ := n_; clear hb hbox hg; have hnb6 := NB414_415.out; have hnc6 := NB415_414.out; obtain ⟨hcz7_0, hcz7_1, hfz7_0, hfz7_1⟩ := bk2 BK414.out; obtain ⟨hcz8_0, hcz8_1, hfz8_0, hfz8_1⟩ := bk2 BK415.out) | ((with_reducible refine gate_callee (f := 50) rfl ?_); refine goesL_ (some 9) rfl rfl Try.func50 (by kernel_rfl) rfl #[.slice A0_1 l0_1.length c0_1, .agg #[.int .i64 a1_0, .string a1_1], .func (.func 25) #[] #[]] rfl AQ ?_; (with_reducible refine (slices_BinarySearchFunc_impl_Entry_impl_Entry_impl_Entry.calls k _ _ l0_1 a1_0 a1_1 () t416 t417 _ ?side1 ?side2 A3.out).mono ?_); (case side1 => exact SC HR0_1); (case side2 => exact HC0_1.out); rintro e w9 ⟨rfl, hb⟩; refine ⟨_, rfl, ?_⟩; have n_ : _ ∧ _ ∧ _ := ⟨AsM (blk_below (BD BK414) hb), AsM (blk_below (BD BK415) hb), AsM (below_step BG hb)⟩; clear BK414 BK415 HB; obtain ⟨BK414, BK415, HB⟩ := n_; (try clear hb); (try clear hb2); (try clear hk); (try clear hi)))
 go_ret2
 exact ⟨ER, BG⟩
def impl_DummyKey.f (a0 : Int) : Option (Int) := (impl_Flip.f a0).bind fun t418 => (some (Go.bits .andNot .i64 t418 1))
set_option maxHeartbeats 8000000 in
set_option maxRecDepth 100000 in
theorem impl_DummyKey.calls (a0 : Int) (r : Int) (w : World) (h : impl_DummyKey.f a0 = some r) :
  Calls Try.prog 38 #[.int .i64 a0] w fun e w' => e = .returned (.int .i64 r) ∧ Drawn0 w w' := by
 have H : ((impl_Flip.f a0).bind fun t418 => (some (Go.bits .andNot .i64 t418 1))) = some r := h
 clear h
 replace H := BS H
 obtain ⟨t418, A20, H⟩ := H
 have A2 := Aside0.mk A20
 clear A20
 obtain rfl := Option.some.inj H
 go_enter Try.func38, Try.ntmps38
 go_wp2_with (first | ((with_reducible refine gate_callee (f := 52) rfl ?_); refine goesL_ (some 4) rfl rfl Try.func52 (by kernel_rfl) rfl #[.int .i64 a0] rfl AQ ?_; (with_reducible refine (impl_Flip.calls a0 t418 _ A2.out).mono ?_); rintro e w' ⟨rfl, ⟨nd, rfl⟩⟩; refine ⟨_, rfl, ?_⟩))
 go_ret
 exact ⟨by first | rfl | (simp; done) | (simp [*]; done), DR⟩
def impl_Table_isOpen.f (k : Nat) (a0_0 : Int) (l0_1 : List (S49)) (a1 : Int) : Option (Bool) := (impl_DummyKey.f a1).bind fun t420 => ((impl_Table_place.f k a0_0 l0_1 t420 (⟨#[]⟩ : ByteArray)).bind fun bt421 => (some bt421.2))
theorem impl_Table_isOpen.mono : ∀ a0 a1 a2 k, LeO (impl_Table_isOpen.f k a0 a1 a2) (impl_Table_isOpen.f (k + 1) a0 a1 a2) := by
 intro a0 a1 a2 k
 unfold impl_Table_isOpen.f
 repeat' first | (with_reducible first | exact impl_Table_place.mono _ _ _ _ _ | exact LeO.refl _ | exact LeO.none _ | refine LeO.ite ?_ ?_ | refine LeO.bind ?_ (fun _ => ?_)) | exact impl_Table_place.mono _ _ _ _ _ | exact LeO.none _ | refine LeO.ite ?_ ?_ | refine LeO.bind ?_ (fun _ => ?_)
def impl_Table_isOpen.T1 : Bool × List (List Nat × List Nat) := (true, [([], []), ([], []), ([1], [1]), ([2], [2]), ([0, 3, 2], [0, 3]), ([4], [4]), ([5], [5]), ([5], [5]), ([6, 4, 0, 1, 2, 3, 4, 5, 6], [6]), ([7, 8, 0, 1, 2, 3, 4, 5, 6, 7, 8], [7])])
def impl_Table_isOpen.B1 : List Nat := [0, 0, 2, 6, 15, 31, 63, 63, 127, 511]
theorem impl_Table_isOpen.tab1 : rtab .any (opsOf Try.f28 1) = impl_Table_isOpen.T1 := by kernel_rfl
theorem impl_Table_isOpen.bits1 : waitsOk impl_Table_isOpen.T1.2 impl_Table_isOpen.B1 = true := by kernel_rfl
set_option maxHeartbeats 8000000 in
set_option maxRecDepth 100000 in
theorem impl_Table_isOpen.calls (k : Nat) (a0_0 : Int) (A0_1 : Option Addr) (c0_1 : Nat) (l0_1 : List (S49)) (a1 : Int) (r : Bool) (w : World) (hr0_1 : Kd.C k49 w A0_1 l0_1.length l0_1) (hc0_1 : l0_1.length ≤ c0_1) (h : impl_Table_isOpen.f k a0_0 l0_1 a1 = some r) :
  Calls Try.prog 28 #[.agg #[.int .i64 a0_0, .slice A0_1 l0_1.length c0_1], .int .i64 a1] w fun e w' => e = .returned (.bool r) ∧ Below w.heap.size w w' := by
 have hu25 := Try.underlying25
 have hu49 := Try.underlying49
 have HR0_1 := Aside0.mk hr0_1
 have HC0_1 := Aside0.mk hc0_1
 clear hr0_1 hc0_1
 have HB := Aside0.mk (Below.refl w.heap.size w)
 have H : ((impl_DummyKey.f a1).bind fun t420 => ((impl_Table_place.f k a0_0 l0_1 t420 (⟨#[]⟩ : ByteArray)).bind fun bt421 => (some bt421.2))) = some r := h
 clear h
 replace H := BS H
 obtain ⟨t420, A30, H⟩ := H
 have A3 := Aside0.mk A30
 clear A30
 replace H := BS H
 obtain ⟨⟨t421, t422⟩, A40, H⟩ := H
 have A4 := Aside0.mk A40
 clear A40
 obtain rfl := Option.some.inj H
 go_enter Try.func28, Try.ntmps28
 try go_wp2_with (first | ((with_reducible refine gate_dst (N := 2) rfl ?_); refine box_event ?hg (N := 2) ?hd (cs := #[.int .i64 a0_0, .slice A0_1 l0_1.length c0_1]) (t := 25) ?hr ?_; (case hd => rfl); (case hg => rfl); (case hr => first | (go_simp; done) | (go_simp; rfl)); intro gb419 hg w5 hbox hb; have n_ : _ ∧ _ ∧ _ ∧ _ := ⟨AsM (below_step BL hb), AsM (hbox), AsM ((GL : w.heap.size ≤ gb419)), AsM ((GL : w.heap.size ≤ gb419))⟩; clear HB; obtain ⟨HB, BK419, GW419, GE419⟩ := n_; clear hb hbox hg))
 have n_ : _ ∧ _ := ⟨AsM (blk_drew BK419.out), AsM (below_drew1 HB.out)⟩
 clear BK419 HB
 obtain ⟨BK419, HB⟩ := n_
 refine start_ (n := 10) (S := fun w' => w'.cell? ⟨gb419, 0, none⟩ = some (.int .i64 a0_0) ∧ w'.cell? ⟨gb419, 1, none⟩ = some (.slice A0_1 l0_1.length c0_1)) (ds := []) #[false, false, false, false, false, false, false, false, false, false] (by kernel_rfl) rfl rfl ⟨(blk_cell BK419.out 0).trans rfl, (blk_cell BK419.out 1).trans rfl⟩ (fun hHeld => ?_); refine with_tabW impl_Table_isOpen.tab1 impl_Table_isOpen.bits1 (fun HT_ HW_ => ?_)
 generalize w5.drew = w6 at BK419 HB hHeld ⊢
 refine PU (i := 1) (N := some 9) #[false, true, false, false, false, false, false, false, false, false] rfl rfl HT_ ?_
 refine PT (i := 0) (N := some 8) (tf 2 8) rfl rfl HT_ HW_ hHeld ?_
 refine one_ (i := 2) (N := some 10) (tf 3 7) rfl rfl (one_of HT_.out (by kernel_rfl)) (by decide) (fun K hK => ?_)
 refine goes_ Try.func38 (by kernel_rfl) rfl #[.int .i64 a1] (by rfl) rfl rfl AQ ?_
 with_reducible refine (impl_DummyKey.calls a1 t420 _ A3.out).mono ?_
 rintro e w' ⟨rfl, ⟨nd, rfl⟩⟩
 refine ⟨_, rfl, ?_⟩
 refine hK.out _ _ ⟨(blk_cell BK419.out 0).trans rfl, (blk_cell BK419.out 1).trans rfl⟩ (fun hHeld => ?_)
 clear hK K
 refine NM (some 10) ?_
 refine PU (i := 3) (N := some 11) (tf 4 6) rfl rfl HT_ ?_
 refine one_ (i := 4) (N := some 12) (tf 5 5) rfl rfl (one_of HT_.out (by kernel_rfl)) (by decide) (fun K hK => ?_)
 refine goes_ Try.func34 (by kernel_rfl) rfl #[.agg #[.int .i64 a0_0, .slice A0_1 l0_1.length c0_1], .agg #[.int .i64 t420, .string (⟨#[]⟩ : ByteArray)]] (by rfl) rfl rfl AQ ?_
 with_reducible refine (impl_Table_place.calls k a0_0 _ _ l0_1 t420 (⟨#[]⟩ : ByteArray) t421 t422 _ ?side1 ?side2 A4.out).mono ?_
 (case side1 => repeat (first | exact (Kd.C_below HR0_1.out BG) | (with_reducible refine Kd.C_alloc ?_ _) | (with_reducible refine Kd.C_drewN ?_ _) | (with_reducible refine Kd.C_drew ?_)))
 (case side2 => exact HC0_1.out)
 rintro e w7 ⟨rfl, hb⟩
 refine ⟨_, rfl, ?_⟩
 have n_ : _ ∧ _ := ⟨AsM (blk_below (BD BK419) hb), AsM (below_step BG hb)⟩
 clear BK419 HB
 obtain ⟨BK419, HB⟩ := n_
 (try clear hb)
 (try clear hb2)
 (try clear hk)
 (try clear hi)
 refine hK.out _ _ ⟨(blk_cell BK419.out 0).trans rfl, (blk_cell BK419.out 1).trans rfl⟩ (fun hHeld => ?_)
 clear hK K
 refine NM (some 12) ?_
 refine PU (i := 5) (N := some 7) (tf 6 4) rfl rfl HT_ ?_
 refine PU (i := 6) (N := some 13) (tf 7 3) rfl rfl HT_ ?_
 refine PU (i := 7) (N := some 14) (tf 8 2) rfl rfl HT_ ?_
 refine PU (i := 8) (N := some 5) (tf 9 1) rfl rfl HT_ ?_
 refine PU (i := 9) (N := some 6) (tf 10 0) rfl rfl HT_ ?_
 refine done_ (done_of HT_.out (by kernel_rfl)) ?_
 try go_wp2
 go_ret
 exact ⟨ER, BG⟩
def math_bits_Len64.j0 : Nat → Int → Int → Option (Int)
 | 0, _, _ => none
 | k + 1, x0, x2 => if x0 ≥ 65536 then (if (x0 / 65536) ≥ 256 then (if 0 ≤ (((x0 / 65536) / 256) % 256) then (if (((x0 / 65536) / 256) % 256) < 256 then (some (wrap64 ((wrap64 ((wrap64 (x2 + 16)) + 8)) + (wrap64 (bt (⟨#[0, 1, 2, 2, 3, 3, 3, 3, 4, 4, 4, 4, 4, 4, 4, 4, 5, 5, 5, 5, 5, 5, 5, 5, 5, 5, 5, 5, 5, 5, 5, 5, 6, 6, 6, 6, 6, 6, 6, 6, 6, 6, 6, 6, 6, 6, 6, 6, 6, 6, 6, 6, 6, 6, 6, 6, 6, 6, 6, 6, 6, 6, 6, 6, 7, 7, 7, 7, 7, 7, 7, 7, 7, 7, 7, 7, 7, 7, 7, 7, 7, 7, 7, 7, 7, 7, 7, 7, 7, 7, 7, 7, 7, 7, 7, 7, 7, 7, 7, 7, 7, 7, 7, 7, 7, 7, 7, 7, 7, 7, 7, 7, 7, 7, 7, 7, 7, 7, 7, 7, 7, 7, 7, 7, 7, 7, 7, 7, 8, 8, 8, 8, 8, 8, 8, 8, 8, 8, 8, 8, 8, 8, 8, 8, 8, 8, 8, 8, 8, 8, 8, 8, 8, 8, 8, 8, 8, 8, 8, 8, 8, 8, 8, 8, 8, 8, 8, 8, 8, 8, 8, 8, 8, 8, 8, 8, 8, 8, 8, 8, 8, 8, 8, 8, 8, 8, 8, 8, 8, 8, 8, 8, 8, 8, 8, 8, 8, 8, 8, 8, 8, 8, 8, 8, 8, 8, 8, 8, 8, 8, 8, 8, 8, 8, 8, 8, 8, 8, 8, 8, 8, 8, 8, 8, 8, 8, 8, 8, 8, 8, 8, 8, 8, 8, 8, 8, 8, 8, 8, 8, 8, 8, 8, 8, 8, 8, 8, 8, 8, 8, 8, 8, 8, 8, 8, 8]⟩ : ByteArray) (((x0 / 65536) / 256) % 256)))))) else (none)) else (none)) else (if 0 ≤ ((x0 / 65536) % 256) then (if ((x0 / 65536) % 256) < 256 then (some (wrap64 ((wrap64 (x2 + 16)) + (wrap64 (bt (⟨#[0, 1, 2, 2, 3, 3, 3, 3, 4, 4, 4, 4, 4, 4, 4, 4, 5, 5, 5, 5, 5, 5, 5, 5, 5, 5, 5, 5, 5, 5, 5, 5, 6, 6, 6, 6, 6, 6, 6, 6, 6, 6, 6, 6, 6, 6, 6, 6, 6, 6, 6, 6, 6, 6, 6, 6, 6, 6, 6, 6, 6, 6, 6, 6, 7, 7, 7, 7, 7, 7, 7, 7, 7, 7, 7, 7, 7, 7, 7, 7, 7, 7, 7, 7, 7, 7, 7, 7, 7, 7, 7, 7, 7, 7, 7, 7, 7, 7, 7, 7, 7, 7, 7, 7, 7, 7, 7, 7, 7, 7, 7, 7, 7, 7, 7, 7, 7, 7, 7, 7, 7, 7, 7, 7, 7, 7, 7, 7, 8, 8, 8, 8, 8, 8, 8, 8, 8, 8, 8, 8, 8, 8, 8, 8, 8, 8, 8, 8, 8, 8, 8, 8, 8, 8, 8, 8, 8, 8, 8, 8, 8, 8, 8, 8, 8, 8, 8, 8, 8, 8, 8, 8, 8, 8, 8, 8, 8, 8, 8, 8, 8, 8, 8, 8, 8, 8, 8, 8, 8, 8, 8, 8, 8, 8, 8, 8, 8, 8, 8, 8, 8, 8, 8, 8, 8, 8, 8, 8, 8, 8, 8, 8, 8, 8, 8, 8, 8, 8, 8, 8, 8, 8, 8, 8, 8, 8, 8, 8, 8, 8, 8, 8, 8, 8, 8, 8, 8, 8, 8, 8, 8, 8, 8, 8, 8, 8, 8, 8, 8, 8, 8, 8, 8, 8, 8, 8]⟩ : ByteArray) ((x0 / 65536) % 256)))))) else (none)) else (none))) else (if x0 ≥ 256 then (if 0 ≤ ((x0 / 256) % 256) then (if ((x0 / 256) % 256) < 256 then (some (wrap64 ((wrap64 (x2 + 8)) + (wrap64 (bt (⟨#[0, 1, 2, 2, 3, 3, 3, 3, 4, 4, 4, 4, 4, 4, 4, 4, 5, 5, 5, 5, 5, 5, 5, 5, 5, 5, 5, 5, 5, 5, 5, 5, 6, 6, 6, 6, 6, 6, 6, 6, 6, 6, 6, 6, 6, 6, 6, 6, 6, 6, 6, 6, 6, 6, 6, 6, 6, 6, 6, 6, 6, 6, 6, 6, 7, 7, 7, 7, 7, 7, 7, 7, 7, 7, 7, 7, 7, 7, 7, 7, 7, 7, 7, 7, 7, 7, 7, 7, 7, 7, 7, 7, 7, 7, 7, 7, 7, 7, 7, 7, 7, 7, 7, 7, 7, 7, 7, 7, 7, 7, 7, 7, 7, 7, 7, 7, 7, 7, 7, 7, 7, 7, 7, 7, 7, 7, 7, 7, 8, 8, 8, 8, 8, 8, 8, 8, 8, 8, 8, 8, 8, 8, 8, 8, 8, 8, 8, 8, 8, 8, 8, 8, 8, 8, 8, 8, 8, 8, 8, 8, 8, 8, 8, 8, 8, 8, 8, 8, 8, 8, 8, 8, 8, 8, 8, 8, 8, 8, 8, 8, 8, 8, 8, 8, 8, 8, 8, 8, 8, 8, 8, 8, 8, 8, 8, 8, 8, 8, 8, 8, 8, 8, 8, 8, 8, 8, 8, 8, 8, 8, 8, 8, 8, 8, 8, 8, 8, 8, 8, 8, 8, 8, 8, 8, 8, 8, 8, 8, 8, 8, 8, 8, 8, 8, 8, 8, 8, 8, 8, 8, 8, 8, 8, 8, 8, 8, 8, 8, 8, 8, 8, 8, 8, 8, 8, 8]⟩ : ByteArray) ((x0 / 256) % 256)))))) else (none)) else (none)) else (if 0 ≤ ((x0) % 256) then (if ((x0) % 256) < 256 then (some (wrap64 (x2 + (wrap64 (bt (⟨#[0, 1, 2, 2, 3, 3, 3, 3, 4, 4, 4, 4, 4, 4, 4, 4, 5, 5, 5, 5, 5, 5, 5, 5, 5, 5, 5, 5, 5, 5, 5, 5, 6, 6, 6, 6, 6, 6, 6, 6, 6, 6, 6, 6, 6, 6, 6, 6, 6, 6, 6, 6, 6, 6, 6, 6, 6, 6, 6, 6, 6, 6, 6, 6, 7, 7, 7, 7, 7, 7, 7, 7, 7, 7, 7, 7, 7, 7, 7, 7, 7, 7, 7, 7, 7, 7, 7, 7, 7, 7, 7, 7, 7, 7, 7, 7, 7, 7, 7, 7, 7, 7, 7, 7, 7, 7, 7, 7, 7, 7, 7, 7, 7, 7, 7, 7, 7, 7, 7, 7, 7, 7, 7, 7, 7, 7, 7, 7, 8, 8, 8, 8, 8, 8, 8, 8, 8, 8, 8, 8, 8, 8, 8, 8, 8, 8, 8, 8, 8, 8, 8, 8, 8, 8, 8, 8, 8, 8, 8, 8, 8, 8, 8, 8, 8, 8, 8, 8, 8, 8, 8, 8, 8, 8, 8, 8, 8, 8, 8, 8, 8, 8, 8, 8, 8, 8, 8, 8, 8, 8, 8, 8, 8, 8, 8, 8, 8, 8, 8, 8, 8, 8, 8, 8, 8, 8, 8, 8, 8, 8, 8, 8, 8, 8, 8, 8, 8, 8, 8, 8, 8, 8, 8, 8, 8, 8, 8, 8, 8, 8, 8, 8, 8, 8, 8, 8, 8, 8, 8, 8, 8, 8, 8, 8, 8, 8, 8, 8, 8, 8, 8, 8, 8, 8, 8, 8]⟩ : ByteArray) ((x0) % 256)))))) else (none)) else (none)))
def math_bits_Len64.f (k : Nat) (a0 : Int) : Option (Int) := if a0 ≥ 4294967296 then (math_bits_Len64.j0 k (a0 / 4294967296) 32) else (math_bits_Len64.j0 k a0 0)
theorem math_bits_Len64.mono_l : ∀ k, (∀ y0 y1, LeO (math_bits_Len64.j0 k y0 y1) (math_bits_Len64.j0 (k + 1) y0 y1))
 | 0 => fun _ _ r h => by simp [math_bits_Len64.j0] at h
 | k + 1 => by
  have ih0 := math_bits_Len64.mono_l k
  ·intro y0 y1
   unfold math_bits_Len64.j0
   repeat' first | (with_reducible first | exact ih0 _ _ | exact LeO.refl _ | exact LeO.none _ | refine LeO.ite ?_ ?_ | refine LeO.bind ?_ (fun _ => ?_)) | exact ih0 _ _ | exact LeO.none _ | refine LeO.ite ?_ ?_ | refine LeO.bind ?_ (fun _ => ?_)
theorem math_bits_Len64.mono : ∀ a0 k, LeO (math_bits_Len64.f k a0) (math_bits_Len64.f (k + 1) a0) := by
 intro a0 k
 have ih0 := math_bits_Len64.mono_l k
 unfold math_bits_Len64.f
 repeat' first | (with_reducible first | exact ih0 _ _ | exact LeO.refl _ | exact LeO.none _ | refine LeO.ite ?_ ?_ | refine LeO.bind ?_ (fun _ => ?_)) | exact ih0 _ _ | exact LeO.none _ | refine LeO.ite ?_ ?_ | refine LeO.bind ?_ (fun _ => ?_)
set_option maxHeartbeats 8000000 in
set_option maxRecDepth 100000 in
theorem math_bits_Len64.calls (k : Nat) (a0 : Int) (r : Int) (w : World) (h : math_bits_Len64.f k a0 = some r) :
  Calls Try.prog 65 #[.int .u64 a0] w fun e w' => e = .returned (.int .i64 r) ∧ Drawn0 w w' := by
 have H : (if a0 ≥ 4294967296 then (math_bits_Len64.j0 k (a0 / 4294967296) 32) else (math_bits_Len64.j0 k a0 0)) = some r := h
 clear h
 have HC2 := Aside0.mk H
 clear H
 go_enter Try.func65, Try.ntmps65
 go_upto_if 4 with (fail)
 go_cut [0, 2] (fun v0 v2 wc => ∃ (kq : Nat) (x0_1 : Int) (x2_1 : Int), v0 = .int .u64 x0_1 ∧ v2 = .int .i64 x2_1 ∧ Aside0 (math_bits_Len64.j0 kq x0_1 x2_1 = some r) ∧ Aside0 (kq ≤ k) ∧ Drawn0 w wc)
 case first =>
  have H := HC2.out
  clear HC2
  by_cases c3 : a0 ≥ 4294967296
  ·rw [if_pos c3] at H
   have c3b0 : decide (4294967296 ≤ a0) = true := decide_eq_true c3
   clear c3
   (first | rw [c3b0] | (simp only [i64_w, i32_w]; rw [c3b0]) | skip)
   have H' := Aside0.mk H
   clear H
   go_wp2
   go_meet
   case rel => exact ⟨_, (a0 / 4294967296), (32), RS, RS, H', ⟨by first | omega | exact Nat.le_refl _⟩, DR⟩
  ·rw [if_neg c3] at H
   have c3b0 : decide (4294967296 ≤ a0) = false := decide_eq_false c3
   clear c3
   (first | rw [c3b0] | (simp only [i64_w, i32_w]; rw [c3b0]) | skip)
   have H' := Aside0.mk H
   clear H
   go_wp2
   go_meet
   case rel => exact ⟨_, (a0), (0), RS, RS, H', ⟨by first | omega | exact Nat.le_refl _⟩, DR⟩
 case rest =>
  clear HC2
  try clear p2
  try clear c3
  try clear c3b0
  obtain ⟨kq, x0_1, x2_1, rfl, rfl, HA, HJ1, ⟨mc1, rfl⟩⟩ := hcut
  cases kq with
  | zero => exact absurd HA.out (by simp [math_bits_Len64.j0])
  | succ kj1 =>
   have H := HA.out
   clear HA
   simp only [math_bits_Len64.j0] at H
   by_cases c4 : x0_1 ≥ 65536
   ·rw [if_pos c4] at H
    have c4b0 : decide (65536 ≤ x0_1) = true := decide_eq_true c4
    clear c4
    by_cases c5 : (x0_1 / 65536) ≥ 256
    ·rw [if_pos c5] at H
     have c5b0 : decide (256 ≤ (x0_1 / 65536)) = true := decide_eq_true c5
     clear c5
     obtain ⟨ji6, hji6⟩ : ∃ j_ : Int, (((x0_1 / 65536) / 256) % 256) = j_ := ⟨_, rfl⟩
     replace H : (if 0 ≤ (ji6) then (if (ji6) < 256 then (some (wrap64 ((wrap64 ((wrap64 (x2_1 + 16)) + 8)) + (wrap64 (bt (⟨#[0, 1, 2, 2, 3, 3, 3, 3, 4, 4, 4, 4, 4, 4, 4, 4, 5, 5, 5, 5, 5, 5, 5, 5, 5, 5, 5, 5, 5, 5, 5, 5, 6, 6, 6, 6, 6, 6, 6, 6, 6, 6, 6, 6, 6, 6, 6, 6, 6, 6, 6, 6, 6, 6, 6, 6, 6, 6, 6, 6, 6, 6, 6, 6, 7, 7, 7, 7, 7, 7, 7, 7, 7, 7, 7, 7, 7, 7, 7, 7, 7, 7, 7, 7, 7, 7, 7, 7, 7, 7, 7, 7, 7, 7, 7, 7, 7, 7, 7, 7, 7, 7, 7, 7, 7, 7, 7, 7, 7, 7, 7, 7, 7, 7, 7, 7, 7, 7, 7, 7, 7, 7, 7, 7, 7, 7, 7, 7, 8, 8, 8, 8, 8, 8, 8, 8, 8, 8, 8, 8, 8, 8, 8, 8, 8, 8, 8, 8, 8, 8, 8, 8, 8, 8, 8, 8, 8, 8, 8, 8, 8, 8, 8, 8, 8, 8, 8, 8, 8, 8, 8, 8, 8, 8, 8, 8, 8, 8, 8, 8, 8, 8, 8, 8, 8, 8, 8, 8, 8, 8, 8, 8, 8, 8, 8, 8, 8, 8, 8, 8, 8, 8, 8, 8, 8, 8, 8, 8, 8, 8, 8, 8, 8, 8, 8, 8, 8, 8, 8, 8, 8, 8, 8, 8, 8, 8, 8, 8, 8, 8, 8, 8, 8, 8, 8, 8, 8, 8, 8, 8, 8, 8, 8, 8, 8, 8, 8, 8, 8, 8, 8, 8, 8, 8, 8, 8]⟩ : ByteArray) (ji6)))))) else (none)) else (none)) = some r := by first | (rw [hji6] at H; exact H) | (simp only [hji6] at H ⊢; exact H)
     by_cases c7 : 0 ≤ (ji6)
     ·rw [if_pos c7] at H
      have c7b0 : decide (0 ≤ (ji6)) = true := decide_eq_true c7
      clear c7
      by_cases c8 : (ji6) < 256
      ·rw [if_pos c8] at H
       have c8b0 : decide ((ji6) < 256) = true := decide_eq_true c8
       clear c8
       obtain rfl := Option.some.inj H
       have p9 : 0 ≤ ((ji6) : Int) := of_decide_eq_true AS
       have q9 : (ji6) < (256 : Int) := of_decide_eq_true AS
       have hx9 := bt_at (⟨#[0, 1, 2, 2, 3, 3, 3, 3, 4, 4, 4, 4, 4, 4, 4, 4, 5, 5, 5, 5, 5, 5, 5, 5, 5, 5, 5, 5, 5, 5, 5, 5, 6, 6, 6, 6, 6, 6, 6, 6, 6, 6, 6, 6, 6, 6, 6, 6, 6, 6, 6, 6, 6, 6, 6, 6, 6, 6, 6, 6, 6, 6, 6, 6, 7, 7, 7, 7, 7, 7, 7, 7, 7, 7, 7, 7, 7, 7, 7, 7, 7, 7, 7, 7, 7, 7, 7, 7, 7, 7, 7, 7, 7, 7, 7, 7, 7, 7, 7, 7, 7, 7, 7, 7, 7, 7, 7, 7, 7, 7, 7, 7, 7, 7, 7, 7, 7, 7, 7, 7, 7, 7, 7, 7, 7, 7, 7, 7, 8, 8, 8, 8, 8, 8, 8, 8, 8, 8, 8, 8, 8, 8, 8, 8, 8, 8, 8, 8, 8, 8, 8, 8, 8, 8, 8, 8, 8, 8, 8, 8, 8, 8, 8, 8, 8, 8, 8, 8, 8, 8, 8, 8, 8, 8, 8, 8, 8, 8, 8, 8, 8, 8, 8, 8, 8, 8, 8, 8, 8, 8, 8, 8, 8, 8, 8, 8, 8, 8, 8, 8, 8, 8, 8, 8, 8, 8, 8, 8, 8, 8, 8, 8, 8, 8, 8, 8, 8, 8, 8, 8, 8, 8, 8, 8, 8, 8, 8, 8, 8, 8, 8, 8, 8, 8, 8, 8, 8, 8, 8, 8, 8, 8, 8, 8, 8, 8, 8, 8, 8, 8, 8, 8, 8, 8, 8, 8]⟩ : ByteArray) (ji6)
       replace p9 := eq_true p9
       replace q9 := eq_true q9
       go_wp2
       go_ret
       exact ⟨by first | rfl | (simp; done) | (simp only [← hji6] <;> (first | rfl | simp)) | (simp [*]; done), DR⟩
      ·rw [if_neg c8] at H
       exact absurd H (by simp)
     ·rw [if_neg c7] at H
      exact absurd H (by simp)
    ·rw [if_neg c5] at H
     have c5b0 : decide (256 ≤ (x0_1 / 65536)) = false := decide_eq_false c5
     clear c5
     obtain ⟨ji10, hji10⟩ : ∃ j_ : Int, ((x0_1 / 65536) % 256) = j_ := ⟨_, rfl⟩
     replace H : (if 0 ≤ (ji10) then (if (ji10) < 256 then (some (wrap64 ((wrap64 (x2_1 + 16)) + (wrap64 (bt (⟨#[0, 1, 2, 2, 3, 3, 3, 3, 4, 4, 4, 4, 4, 4, 4, 4, 5, 5, 5, 5, 5, 5, 5, 5, 5, 5, 5, 5, 5, 5, 5, 5, 6, 6, 6, 6, 6, 6, 6, 6, 6, 6, 6, 6, 6, 6, 6, 6, 6, 6, 6, 6, 6, 6, 6, 6, 6, 6, 6, 6, 6, 6, 6, 6, 7, 7, 7, 7, 7, 7, 7, 7, 7, 7, 7, 7, 7, 7, 7, 7, 7, 7, 7, 7, 7, 7, 7, 7, 7, 7, 7, 7, 7, 7, 7, 7, 7, 7, 7, 7, 7, 7, 7, 7, 7, 7, 7, 7, 7, 7, 7, 7, 7, 7, 7, 7, 7, 7, 7, 7, 7, 7, 7, 7, 7, 7, 7, 7, 8, 8, 8, 8, 8, 8, 8, 8, 8, 8, 8, 8, 8, 8, 8, 8, 8, 8, 8, 8, 8, 8, 8, 8, 8, 8, 8, 8, 8, 8, 8, 8, 8, 8, 8, 8, 8, 8, 8, 8, 8, 8, 8, 8, 8, 8, 8, 8, 8, 8, 8, 8, 8, 8, 8, 8, 8, 8, 8, 8, 8, 8, 8, 8, 8, 8, 8, 8, 8, 8, 8, 8, 8, 8, 8, 8, 8, 8, 8, 8, 8, 8, 8, 8, 8, 8, 8, 8, 8, 8, 8, 8, 8, 8, 8, 8, 8, 8, 8, 8, 8, 8, 8, 8, 8, 8, 8, 8, 8, 8, 8, 8, 8, 8, 8, 8, 8, 8, 8, 8, 8, 8, 8, 8, 8, 8, 8, 8]⟩ : ByteArray) (ji10)))))) else (none)) else (none)) = some r := by first | (rw [hji10] at H; exact H) | (simp only [hji10] at H ⊢; exact H)
     by_cases c11 : 0 ≤ (ji10)
     ·rw [if_pos c11] at H
      have c11b0 : decide (0 ≤ (ji10)) = true := decide_eq_true c11
      clear c11
      by_cases c12 : (ji10) < 256
      ·rw [if_pos c12] at H
       have c12b0 : decide ((ji10) < 256) = true := decide_eq_true c12
       clear c12
       obtain rfl := Option.some.inj H
       have p13 : 0 ≤ ((ji10) : Int) := of_decide_eq_true AS
       have q13 : (ji10) < (256 : Int) := of_decide_eq_true AS
       have hx13 := bt_at (⟨#[0, 1, 2, 2, 3, 3, 3, 3, 4, 4, 4, 4, 4, 4, 4, 4, 5, 5, 5, 5, 5, 5, 5, 5, 5, 5, 5, 5, 5, 5, 5, 5, 6, 6, 6, 6, 6, 6, 6, 6, 6, 6, 6, 6, 6, 6, 6, 6, 6, 6, 6, 6, 6, 6, 6, 6, 6, 6, 6, 6, 6, 6, 6, 6, 7, 7, 7, 7, 7, 7, 7, 7, 7, 7, 7, 7, 7, 7, 7, 7, 7, 7, 7, 7, 7, 7, 7, 7, 7, 7, 7, 7, 7, 7, 7, 7, 7, 7, 7, 7, 7, 7, 7, 7, 7, 7, 7, 7, 7, 7, 7, 7, 7, 7, 7, 7, 7, 7, 7, 7, 7, 7, 7, 7, 7, 7, 7, 7, 8, 8, 8, 8, 8, 8, 8, 8, 8, 8, 8, 8, 8, 8, 8, 8, 8, 8, 8, 8, 8, 8, 8, 8, 8, 8, 8, 8, 8, 8, 8, 8, 8, 8, 8, 8, 8, 8, 8, 8, 8, 8, 8, 8, 8, 8, 8, 8, 8, 8, 8, 8, 8, 8, 8, 8, 8, 8, 8, 8, 8, 8, 8, 8, 8, 8, 8, 8, 8, 8, 8, 8, 8, 8, 8, 8, 8, 8, 8, 8, 8, 8, 8, 8, 8, 8, 8, 8, 8, 8, 8, 8, 8, 8, 8, 8, 8, 8, 8, 8, 8, 8, 8, 8, 8, 8, 8, 8, 8, 8, 8, 8, 8, 8, 8, 8, 8, 8, 8, 8, 8, 8, 8, 8, 8, 8, 8, 8]⟩ : ByteArray) (ji10)
       replace p13 := eq_true p13
       replace q13 := eq_true q13
       go_wp2
       go_ret
       exact ⟨by first | rfl | (simp; done) | (simp only [← hji10] <;> (first | rfl | simp)) | (simp [*]; done), DR⟩
      ·rw [if_neg c12] at H
       exact absurd H (by simp)
     ·rw [if_neg c11] at H
      exact absurd H (by simp)
   ·rw [if_neg c4] at H
    have c4b0 : decide (65536 ≤ x0_1) = false := decide_eq_false c4
    clear c4
    by_cases c14 : x0_1 ≥ 256
    ·rw [if_pos c14] at H
     have c14b0 : decide (256 ≤ x0_1) = true := decide_eq_true c14
     clear c14
     obtain ⟨ji15, hji15⟩ : ∃ j_ : Int, ((x0_1 / 256) % 256) = j_ := ⟨_, rfl⟩
     replace H : (if 0 ≤ (ji15) then (if (ji15) < 256 then (some (wrap64 ((wrap64 (x2_1 + 8)) + (wrap64 (bt (⟨#[0, 1, 2, 2, 3, 3, 3, 3, 4, 4, 4, 4, 4, 4, 4, 4, 5, 5, 5, 5, 5, 5, 5, 5, 5, 5, 5, 5, 5, 5, 5, 5, 6, 6, 6, 6, 6, 6, 6, 6, 6, 6, 6, 6, 6, 6, 6, 6, 6, 6, 6, 6, 6, 6, 6, 6, 6, 6, 6, 6, 6, 6, 6, 6, 7, 7, 7, 7, 7, 7, 7, 7, 7, 7, 7, 7, 7, 7, 7, 7, 7, 7, 7, 7, 7, 7, 7, 7, 7, 7, 7, 7, 7, 7, 7, 7, 7, 7, 7, 7, 7, 7, 7, 7, 7, 7, 7, 7, 7, 7, 7, 7, 7, 7, 7, 7, 7, 7, 7, 7, 7, 7, 7, 7, 7, 7, 7, 7, 8, 8, 8, 8, 8, 8, 8, 8, 8, 8, 8, 8, 8, 8, 8, 8, 8, 8, 8, 8, 8, 8, 8, 8, 8, 8, 8, 8, 8, 8, 8, 8, 8, 8, 8, 8, 8, 8, 8, 8, 8, 8, 8, 8, 8, 8, 8, 8, 8, 8, 8, 8, 8, 8, 8, 8, 8, 8, 8, 8, 8, 8, 8, 8, 8, 8, 8, 8, 8, 8, 8, 8, 8, 8, 8, 8, 8, 8, 8, 8, 8, 8, 8, 8, 8, 8, 8, 8, 8, 8, 8, 8, 8, 8, 8, 8, 8, 8, 8, 8, 8, 8, 8, 8, 8, 8, 8, 8, 8, 8, 8, 8, 8, 8, 8, 8, 8, 8, 8, 8, 8, 8, 8, 8, 8, 8, 8, 8]⟩ : ByteArray) (ji15)))))) else (none)) else (none)) = some r := by first | (rw [hji15] at H; exact H) | (simp only [hji15] at H ⊢; exact H)
     by_cases c16 : 0 ≤ (ji15)
     ·rw [if_pos c16] at H
      have c16b0 : decide (0 ≤ (ji15)) = true := decide_eq_true c16
      clear c16
      by_cases c17 : (ji15) < 256
      ·rw [if_pos c17] at H
       have c17b0 : decide ((ji15) < 256) = true := decide_eq_true c17
       clear c17
       obtain rfl := Option.some.inj H
       have p18 : 0 ≤ ((ji15) : Int) := of_decide_eq_true AS
       have q18 : (ji15) < (256 : Int) := of_decide_eq_true AS
       have hx18 := bt_at (⟨#[0, 1, 2, 2, 3, 3, 3, 3, 4, 4, 4, 4, 4, 4, 4, 4, 5, 5, 5, 5, 5, 5, 5, 5, 5, 5, 5, 5, 5, 5, 5, 5, 6, 6, 6, 6, 6, 6, 6, 6, 6, 6, 6, 6, 6, 6, 6, 6, 6, 6, 6, 6, 6, 6, 6, 6, 6, 6, 6, 6, 6, 6, 6, 6, 7, 7, 7, 7, 7, 7, 7, 7, 7, 7, 7, 7, 7, 7, 7, 7, 7, 7, 7, 7, 7, 7, 7, 7, 7, 7, 7, 7, 7, 7, 7, 7, 7, 7, 7, 7, 7, 7, 7, 7, 7, 7, 7, 7, 7, 7, 7, 7, 7, 7, 7, 7, 7, 7, 7, 7, 7, 7, 7, 7, 7, 7, 7, 7, 8, 8, 8, 8, 8, 8, 8, 8, 8, 8, 8, 8, 8, 8, 8, 8, 8, 8, 8, 8, 8, 8, 8, 8, 8, 8, 8, 8, 8, 8, 8, 8, 8, 8, 8, 8, 8, 8, 8, 8, 8, 8, 8, 8, 8, 8, 8, 8, 8, 8, 8, 8, 8, 8, 8, 8, 8, 8, 8, 8, 8, 8, 8, 8, 8, 8, 8, 8, 8, 8, 8, 8, 8, 8, 8, 8, 8, 8, 8, 8, 8, 8, 8, 8, 8, 8, 8, 8, 8, 8, 8, 8, 8, 8, 8, 8, 8, 8, 8, 8, 8, 8, 8, 8, 8, 8, 8, 8, 8, 8, 8, 8, 8, 8, 8, 8, 8, 8, 8, 8, 8, 8, 8, 8, 8, 8, 8, 8]⟩ : ByteArray) (ji15)
       replace p18 := eq_true p18
       replace q18 := eq_true q18
       go_wp2
       go_ret
       exact ⟨by first | rfl | (simp; done) | (simp only [← hji15] <;> (first | rfl | simp)) | (simp [*]; done), DR⟩
      ·rw [if_neg c17] at H
       exact absurd H (by simp)
     ·rw [if_neg c16] at H
      exact absurd H (by simp)
    ·rw [if_neg c14] at H
     have c14b0 : decide (256 ≤ x0_1) = false := decide_eq_false c14
     clear c14
     obtain ⟨ji19, hji19⟩ : ∃ j_ : Int, ((x0_1) % 256) = j_ := ⟨_, rfl⟩
     replace H : (if 0 ≤ (ji19) then (if (ji19) < 256 then (some (wrap64 (x2_1 + (wrap64 (bt (⟨#[0, 1, 2, 2, 3, 3, 3, 3, 4, 4, 4, 4, 4, 4, 4, 4, 5, 5, 5, 5, 5, 5, 5, 5, 5, 5, 5, 5, 5, 5, 5, 5, 6, 6, 6, 6, 6, 6, 6, 6, 6, 6, 6, 6, 6, 6, 6, 6, 6, 6, 6, 6, 6, 6, 6, 6, 6, 6, 6, 6, 6, 6, 6, 6, 7, 7, 7, 7, 7, 7, 7, 7, 7, 7, 7, 7, 7, 7, 7, 7, 7, 7, 7, 7, 7, 7, 7, 7, 7, 7, 7, 7, 7, 7, 7, 7, 7, 7, 7, 7, 7, 7, 7, 7, 7, 7, 7, 7, 7, 7, 7, 7, 7, 7, 7, 7, 7, 7, 7, 7, 7, 7, 7, 7, 7, 7, 7, 7, 8, 8, 8, 8, 8, 8, 8, 8, 8, 8, 8, 8, 8, 8, 8, 8, 8, 8, 8, 8, 8, 8, 8, 8, 8, 8, 8, 8, 8, 8, 8, 8, 8, 8, 8, 8, 8, 8, 8, 8, 8, 8, 8, 8, 8, 8, 8, 8, 8, 8, 8, 8, 8, 8, 8, 8, 8, 8, 8, 8, 8, 8, 8, 8, 8, 8, 8, 8, 8, 8, 8, 8, 8, 8, 8, 8, 8, 8, 8, 8, 8, 8, 8, 8, 8, 8, 8, 8, 8, 8, 8, 8, 8, 8, 8, 8, 8, 8, 8, 8, 8, 8, 8, 8, 8, 8, 8, 8, 8, 8, 8, 8, 8, 8, 8, 8, 8, 8, 8, 8, 8, 8, 8, 8, 8, 8, 8, 8]⟩ : ByteArray) (ji19)))))) else (none)) else (none)) = some r := by first | (rw [hji19] at H; exact H) | (simp only [hji19] at H ⊢; exact H)
     by_cases c20 : 0 ≤ (ji19)
     ·rw [if_pos c20] at H
      have c20b0 : decide (0 ≤ (ji19)) = true := decide_eq_true c20
      clear c20
      by_cases c21 : (ji19) < 256
      ·rw [if_pos c21] at H
       have c21b0 : decide ((ji19) < 256) = true := decide_eq_true c21
       clear c21
       obtain rfl := Option.some.inj H
       have p22 : 0 ≤ ((ji19) : Int) := of_decide_eq_true AS
       have q22 : (ji19) < (256 : Int) := of_decide_eq_true AS
       have hx22 := bt_at (⟨#[0, 1, 2, 2, 3, 3, 3, 3, 4, 4, 4, 4, 4, 4, 4, 4, 5, 5, 5, 5, 5, 5, 5, 5, 5, 5, 5, 5, 5, 5, 5, 5, 6, 6, 6, 6, 6, 6, 6, 6, 6, 6, 6, 6, 6, 6, 6, 6, 6, 6, 6, 6, 6, 6, 6, 6, 6, 6, 6, 6, 6, 6, 6, 6, 7, 7, 7, 7, 7, 7, 7, 7, 7, 7, 7, 7, 7, 7, 7, 7, 7, 7, 7, 7, 7, 7, 7, 7, 7, 7, 7, 7, 7, 7, 7, 7, 7, 7, 7, 7, 7, 7, 7, 7, 7, 7, 7, 7, 7, 7, 7, 7, 7, 7, 7, 7, 7, 7, 7, 7, 7, 7, 7, 7, 7, 7, 7, 7, 8, 8, 8, 8, 8, 8, 8, 8, 8, 8, 8, 8, 8, 8, 8, 8, 8, 8, 8, 8, 8, 8, 8, 8, 8, 8, 8, 8, 8, 8, 8, 8, 8, 8, 8, 8, 8, 8, 8, 8, 8, 8, 8, 8, 8, 8, 8, 8, 8, 8, 8, 8, 8, 8, 8, 8, 8, 8, 8, 8, 8, 8, 8, 8, 8, 8, 8, 8, 8, 8, 8, 8, 8, 8, 8, 8, 8, 8, 8, 8, 8, 8, 8, 8, 8, 8, 8, 8, 8, 8, 8, 8, 8, 8, 8, 8, 8, 8, 8, 8, 8, 8, 8, 8, 8, 8, 8, 8, 8, 8, 8, 8, 8, 8, 8, 8, 8, 8, 8, 8, 8, 8, 8, 8, 8, 8, 8, 8]⟩ : ByteArray) (ji19)
       replace p22 := eq_true p22
       replace q22 := eq_true q22
       go_wp2
       go_ret
       exact ⟨by first | rfl | (simp; done) | (simp only [← hji19] <;> (first | rfl | simp)) | (simp [*]; done), DR⟩
      ·rw [if_neg c21] at H
       exact absurd H (by simp)
     ·rw [if_neg c20] at H
      exact absurd H (by simp)
def math_bits_Len.f (k : Nat) (a0 : Int) : Option (Int) := (math_bits_Len64.f k a0).bind fun t423 => (some t423)
theorem math_bits_Len.mono : ∀ a0 k, LeO (math_bits_Len.f k a0) (math_bits_Len.f (k + 1) a0) := by
 intro a0 k
 unfold math_bits_Len.f
 repeat' first | (with_reducible first | exact math_bits_Len64.mono _ _ | exact LeO.refl _ | exact LeO.none _ | refine LeO.ite ?_ ?_ | refine LeO.bind ?_ (fun _ => ?_)) | exact math_bits_Len64.mono _ _ | exact LeO.none _ | refine LeO.ite ?_ ?_ | refine LeO.bind ?_ (fun _ => ?_)
set_option maxHeartbeats 8000000 in
set_option maxRecDepth 100000 in
theorem math_bits_Len.calls (k : Nat) (a0 : Int) (r : Int) (w : World) (h : math_bits_Len.f k a0 = some r) :
  Calls Try.prog 45 #[.int .u64 a0] w fun e w' => e = .returned (.int .i64 r) ∧ Drawn0 w w' := by
 have H : ((math_bits_Len64.f k a0).bind fun t423 => (some t423)) = some r := h
 clear h
 replace H := BS H
 obtain ⟨t423, A20, H⟩ := H
 have A2 := Aside0.mk A20
 clear A20
 obtain rfl := Option.some.inj H
 go_enter Try.func45, Try.ntmps45
 go_wp2_with (first | ((with_reducible refine gate_callee (f := 65) rfl ?_); refine goesL_ (some 7) rfl rfl Try.func65 (by kernel_rfl) rfl #[.int .u64 a0] rfl AQ ?_; (with_reducible refine (math_bits_Len64.calls k a0 t423 _ A2.out).mono ?_); rintro e w' ⟨rfl, ⟨nd, rfl⟩⟩; refine ⟨_, rfl, ?_⟩))
 go_ret
 exact ⟨by first | rfl | (simp; done) | (simp [*]; done), DR⟩
def impl_Parent.f (k : Nat) (a0 : Int) : Option (Int) := (impl_within.f a0 1 4294967295).bind fun t424 => (if t424 = true then ((math_bits_Len.f k (IntKind.u64.wrap (a0))).bind fun t425 => (if 0 ≤ (wrap64 (t425 - 1)) then (some (wrap64 (a0 - (shl .i64 1 (wrap64 (t425 - 1)))))) else (none))) else (some 0))
theorem impl_Parent.mono : ∀ a0 k, LeO (impl_Parent.f k a0) (impl_Parent.f (k + 1) a0) := by
 intro a0 k
 unfold impl_Parent.f
 repeat' first | (with_reducible first | exact math_bits_Len.mono _ _ | exact LeO.refl _ | exact LeO.none _ | refine LeO.ite ?_ ?_ | refine LeO.bind ?_ (fun _ => ?_)) | exact math_bits_Len.mono _ _ | exact LeO.none _ | refine LeO.ite ?_ ?_ | refine LeO.bind ?_ (fun _ => ?_)
set_option maxHeartbeats 8000000 in
set_option maxRecDepth 100000 in
theorem impl_Parent.calls (k : Nat) (a0 : Int) (r : Int) (w : World) (h : impl_Parent.f k a0 = some r) :
  Calls Try.prog 29 #[.int .i64 a0] w fun e w' => e = .returned (.int .i64 r) ∧ Drawn0 w w' := by
 have H : ((impl_within.f a0 1 4294967295).bind fun t424 => (if t424 = true then ((math_bits_Len.f k (IntKind.u64.wrap (a0))).bind fun t425 => (if 0 ≤ (wrap64 (t425 - 1)) then (some (wrap64 (a0 - (shl .i64 1 (wrap64 (t425 - 1)))))) else (none))) else (some 0))) = some r := h
 clear h
 replace H := BS H
 obtain ⟨t424, A20, H⟩ := H
 have A2 := Aside0.mk A20
 clear A20
 by_cases c3 : t424 = true
 ·subst c3
  replace H := IP H
  replace H := BS H
  obtain ⟨t425, A40, H⟩ := H
  have A4 := Aside0.mk A40
  clear A40
  obtain ⟨ji5, hji5⟩ : ∃ j_ : Int, (wrap64 (t425 - 1)) = j_ := ⟨_, rfl⟩
  replace H : (if 0 ≤ (ji5) then (some (wrap64 (a0 - (shl .i64 1 (ji5))))) else (none)) = some r := by first | (rw [hji5] at H; exact H) | (simp only [hji5] at H ⊢; exact H)
  (try rw [hji5] at A2)
  (try rw [hji5] at A4)
  have hji5w : (IntKind.i64.wrap (t425 - 1)) = ji5 := (i64_w _).trans hji5
  by_cases c6 : 0 ≤ (ji5)
  ·rw [if_pos c6] at H
   have c6b0 := eq_true c6
   have c6b1 : decide (0 ≤ (ji5)) = true := decide_eq_true c6
   clear c6
   obtain ⟨ji7, hji7⟩ : ∃ j_ : Int, (shl .i64 1 (ji5)) = j_ := ⟨_, rfl⟩
   replace H : (some (wrap64 (a0 - (ji7)))) = some r := by first | (rw [hji7] at H; exact H) | (simp only [hji7] at H ⊢; exact H)
   (try rw [hji7] at A2)
   (try rw [hji7] at A4)
   have hji7_ : (IntKind.i64.wrap (1 * 2 ^ min (ji5).toNat 64)) = ji7 := hji7
   have hji7z : (ji5) ≤ 64 → (IntKind.i64.wrap (1 * 2 ^ (ji5).toNat)) = ji7 := shl_small hji7
   have hji7u : (IntKind.i64.wrap (2 ^ min (ji5).toNat 64)) = ji7 := by have h_ := hji7_; rw [Int.one_mul] at h_; exact h_
   have hji7v : (ji5) ≤ 64 → (IntKind.i64.wrap (2 ^ (ji5).toNat)) = ji7 := fun hle_ => by have h_ := hji7z hle_; rw [Int.one_mul] at h_; exact h_
   have hji7y : (wrap64 (1 * 2 ^ min (ji5).toNat 64)) = ji7 := (i64_w _).symm.trans hji7_
   have hji7x : (ji5) ≤ 64 → (wrap64 (1 * 2 ^ (ji5).toNat)) = ji7 := fun h_ => (i64_w _).symm.trans (hji7z h_)
   obtain rfl := Option.some.inj H
   go_enter Try.func29, Try.ntmps29
   go_wp2_with (first | ((with_reducible refine gate_callee (f := 23) rfl ?_); refine goesL_ (some 4) rfl rfl Try.func23 (by kernel_rfl) rfl #[.int .i64 a0, .int .i64 1, .int .i64 4294967295] rfl AQ ?_; (with_reducible refine (impl_within.calls a0 1 4294967295 true _ A2.out).mono ?_); rintro e w' ⟨rfl, ⟨nd, rfl⟩⟩; refine ⟨_, rfl, ?_⟩) | ((with_reducible refine gate_callee (f := 45) rfl ?_); refine goesL_ (some 9) rfl rfl Try.func45 (by kernel_rfl) rfl #[.int .u64 (IntKind.u64.wrap (a0))] rfl AQ ?_; (with_reducible refine (math_bits_Len.calls k (IntKind.u64.wrap (a0)) t425 _ A4.out).mono ?_); rintro e w' ⟨rfl, ⟨nd, rfl⟩⟩; refine ⟨_, rfl, ?_⟩))
   go_ret
   exact ⟨by first | rfl | (simp; done) | (simp only [← hji5, ← hji7] <;> (first | rfl | simp)) | (simp [*]; done), DR⟩
  ·rw [if_neg c6] at H
   exact absurd H (by simp)
 ·replace c3 := Bool.eq_false_iff.mpr c3
  subst c3
  replace H := IN H
  obtain rfl := Option.some.inj H
  go_enter Try.func29, Try.ntmps29
  go_wp2_with (first | ((with_reducible refine gate_callee (f := 23) rfl ?_); refine goesL_ (some 4) rfl rfl Try.func23 (by kernel_rfl) rfl #[.int .i64 a0, .int .i64 1, .int .i64 4294967295] rfl AQ ?_; (with_reducible refine (impl_within.calls a0 1 4294967295 false _ A2.out).mono ?_); rintro e w' ⟨rfl, ⟨nd, rfl⟩⟩; refine ⟨_, rfl, ?_⟩))
  go_ret
  exact ⟨by first | rfl | (simp; done) | (simp [*]; done), DR⟩
end Go.Proofs.Ytbjlldjkkdiblaa.G
