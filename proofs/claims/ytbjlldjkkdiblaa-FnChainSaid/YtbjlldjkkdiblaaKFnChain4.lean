/- Part 4 of the claim FnChain, merged by pack.py (this session's program) out of: the print's words, cut to what is needed; texts that gen.py printed (it runs the kit's print in place); texts of this session. -/
import Derived.Shelf.Spec.SlicesInsert
import Derived.Shelf.Spec.SlicesInsertGrow
import Derived.Test.YtbjlldjkkdiblaaKFnChain0
import Derived.Test.YtbjlldjkkdiblaaKFnChain1
import Derived.Test.YtbjlldjkkdiblaaKFnChain3
namespace Go.Proofs.Ytbjlldjkkdiblaa.Ins
end Go.Proofs.Ytbjlldjkkdiblaa.Ins
namespace Go.Proofs.Ytbjlldjkkdiblaa.Man
end Go.Proofs.Ytbjlldjkkdiblaa.Man
namespace Go.Proofs.Ytbjlldjkkdiblaa.Sh
end Go.Proofs.Ytbjlldjkkdiblaa.Sh
namespace Go.Proofs.Ytbjlldjkkdiblaa.G
open Go.RowKit Go.Proofs.YtbjlldjkkdiblaaW.PrintWords Go.Proofs.YtbjlldjkkdiblaaW.PrintLast Go.Proofs.YtbjlldjkkdiblaaW.PrintMore Go.Proofs.Ytbjlldjkkdiblaa.Sh
attribute [local go_sem] max2_int min2_int max_two min_two max_three min_three max_four min_four
set_option linter.unusedVariables false
set_option linter.unusedSimpArgs false
attribute [local go_sem high] eqA49
mutual
def impl_TableOk.j0 : Nat → Bool → Int → List (S49) → Option (Bool)
 | 0, _, _, _ => none
 | k + 1, x24, x427000, x427001 => if x24 = true then (some false) else (impl_TableOk.l0 k x427001 (x427001.length : Int) 0 x427000 x427001)
def impl_TableOk.l0 : Nat → List (S49) → Int → Int → Int → List (S49) → Option (Bool)
 | 0, _, _, _, _, _ => none
 | k + 1, x26, x27, x28, x427000, x427001 => if x28 < x27 then (if 0 ≤ x28 then (if x28 < (x26.length : Int) then (if x28 > 0 then (if 0 ≤ (wrap64 (x28 - 1)) then (if (wrap64 (x28 - 1)) < (x427001.length : Int) then ((impl_compareEntries.f k ((rd_T49 x427001 (wrap64 (x28 - 1))).f0) ((rd_T49 x427001 (wrap64 (x28 - 1))).f1) ((rd_T49 x26 x28).f0) ((rd_T49 x26 x28).f1)).bind fun t432 => (impl_TableOk.j2 k x26 x27 x28 (decide (t432 ≥ 0)) x427000 x427001 ((rd_T49 x26 x28).f0) ((rd_T49 x26 x28).f1))) else (none)) else (none)) else (impl_TableOk.j2 k x26 x27 x28 false x427000 x427001 ((rd_T49 x26 x28).f0) ((rd_T49 x26 x28).f1))) else (none)) else (none)) else (impl_TableOk.l1 k 0 x427000 0 x427000 x427001)
def impl_TableOk.j2 : Nat → List (S49) → Int → Int → Bool → Int → List (S49) → Int → ByteArray → Option (Bool)
 | 0, _, _, _, _, _, _, _, _ => none
 | k + 1, x26, x27, x28, x45, x427000, x427001, x431000, x431001 => if x45 = true then (some false) else (if x431001.toList = ([] : List UInt8) then (impl_TableOk.l0 k x26 x27 (wrap64 (x28 + 1)) x427000 x427001) else ((impl_ItemOk.f k x431001 (⟨#[]⟩ : ByteArray) 0).bind fun t433 => (if t433 = true then ((impl_entryOf.f k x431001).bind fun bt434 => (if (!(x431000 == bt434.1) || (!(x431001.toList == bt434.2.toList))) = true then (some false) else (impl_TableOk.l0 k x26 x27 (wrap64 (x28 + 1)) x427000 x427001))) else (some false))))
def impl_TableOk.l1 : Nat → Int → Int → Int → Int → List (S49) → Option (Bool)
 | 0, _, _, _, _, _ => none
 | k + 1, x5, x65, x66, x427000, x427001 => if x66 < x65 then ((impl_Table_isOpen.f k x427000 x427001 x66).bind fun t438 => (if t438 = true then ((impl_Parent.f k x66).bind fun t439 => ((impl_Table_isOpen.f k x427000 x427001 t439).bind fun t440 => (if t440 = true then (impl_TableOk.l1 k (wrap64 (x5 + 1)) x65 (wrap64 (x66 + 1)) x427000 x427001) else (some false)))) else (impl_TableOk.l1 k x5 x65 (wrap64 (x66 + 1)) x427000 x427001))) else ((impl_Table_isOpen.f k x427000 x427001 0).bind fun t436 => (if t436 = true then ((impl_Table_keysIn.f k x427000 x427001).bind fun t437 => (some (x5 == (wrap64 ((x427001.length : Int) - t437))))) else (some false)))
end
def impl_TableOk.f (k : Nat) (a0_0 : Int) (l0_1 : List (S49)) : Option (Bool) := (impl_within.f a0_0 1 64).bind fun t427 => (if t427 = true then (if (Go.bits .and .i64 a0_0 (wrap64 (a0_0 - 1))) = 0 then ((impl_Table_keysIn.f k a0_0 l0_1).bind fun t428 => (impl_TableOk.j0 k (decide (t428 > 200)) a0_0 l0_1)) else (impl_TableOk.j0 k true a0_0 l0_1)) else (impl_TableOk.j0 k true a0_0 l0_1))
theorem impl_TableOk.mono_l : ∀ k, (∀ y0 y1 y2, LeO (impl_TableOk.j0 k y0 y1 y2) (impl_TableOk.j0 (k + 1) y0 y1 y2)) ∧ (∀ y0 y1 y2 y3 y4, LeO (impl_TableOk.l0 k y0 y1 y2 y3 y4) (impl_TableOk.l0 (k + 1) y0 y1 y2 y3 y4)) ∧ (∀ y0 y1 y2 y3 y4 y5 y6 y7, LeO (impl_TableOk.j2 k y0 y1 y2 y3 y4 y5 y6 y7) (impl_TableOk.j2 (k + 1) y0 y1 y2 y3 y4 y5 y6 y7)) ∧ (∀ y0 y1 y2 y3 y4, LeO (impl_TableOk.l1 k y0 y1 y2 y3 y4) (impl_TableOk.l1 (k + 1) y0 y1 y2 y3 y4))
 | 0 => ⟨fun _ _ _ r h => by simp [impl_TableOk.j0] at h, fun _ _ _ _ _ r h => by simp [impl_TableOk.l0] at h, fun _ _ _ _ _ _ _ _ r h => by simp [impl_TableOk.j2] at h, fun _ _ _ _ _ r h => by simp [impl_TableOk.l1] at h⟩
 | k + 1 => by
  obtain ⟨ih0, ih1, ih2, ih3⟩ := impl_TableOk.mono_l k
  refine ⟨?_, ?_, ?_, ?_⟩
  ·intro y0 y1 y2
   unfold impl_TableOk.j0
   repeat' first | (with_reducible first | exact ih0 _ _ _ | exact ih1 _ _ _ _ _ | exact ih2 _ _ _ _ _ _ _ _ | exact ih3 _ _ _ _ _ | exact impl_ItemOk.mono _ _ _ _ | exact impl_Parent.mono _ _ | exact impl_Table_isOpen.mono _ _ _ _ | exact impl_Table_keysIn.mono _ _ _ | exact impl_compareEntries.mono _ _ _ _ _ | exact impl_entryOf.mono _ _ | exact LeO.refl _ | exact LeO.none _ | refine LeO.ite ?_ ?_ | refine LeO.bind ?_ (fun _ => ?_)) | exact ih0 _ _ _ | exact ih1 _ _ _ _ _ | exact ih2 _ _ _ _ _ _ _ _ | exact ih3 _ _ _ _ _ | exact impl_ItemOk.mono _ _ _ _ | exact impl_Parent.mono _ _ | exact impl_Table_isOpen.mono _ _ _ _ | exact impl_Table_keysIn.mono _ _ _ | exact impl_compareEntries.mono _ _ _ _ _ | exact impl_entryOf.mono _ _ | exact LeO.none _ | refine LeO.ite ?_ ?_ | refine LeO.bind ?_ (fun _ => ?_)
  ·intro y0 y1 y2 y3 y4
   unfold impl_TableOk.l0
   repeat' first | (with_reducible first | exact ih0 _ _ _ | exact ih1 _ _ _ _ _ | exact ih2 _ _ _ _ _ _ _ _ | exact ih3 _ _ _ _ _ | exact impl_ItemOk.mono _ _ _ _ | exact impl_Parent.mono _ _ | exact impl_Table_isOpen.mono _ _ _ _ | exact impl_Table_keysIn.mono _ _ _ | exact impl_compareEntries.mono _ _ _ _ _ | exact impl_entryOf.mono _ _ | exact LeO.refl _ | exact LeO.none _ | refine LeO.ite ?_ ?_ | refine LeO.bind ?_ (fun _ => ?_)) | exact ih0 _ _ _ | exact ih1 _ _ _ _ _ | exact ih2 _ _ _ _ _ _ _ _ | exact ih3 _ _ _ _ _ | exact impl_ItemOk.mono _ _ _ _ | exact impl_Parent.mono _ _ | exact impl_Table_isOpen.mono _ _ _ _ | exact impl_Table_keysIn.mono _ _ _ | exact impl_compareEntries.mono _ _ _ _ _ | exact impl_entryOf.mono _ _ | exact LeO.none _ | refine LeO.ite ?_ ?_ | refine LeO.bind ?_ (fun _ => ?_)
  ·intro y0 y1 y2 y3 y4 y5 y6 y7
   unfold impl_TableOk.j2
   repeat' first | (with_reducible first | exact ih0 _ _ _ | exact ih1 _ _ _ _ _ | exact ih2 _ _ _ _ _ _ _ _ | exact ih3 _ _ _ _ _ | exact impl_ItemOk.mono _ _ _ _ | exact impl_Parent.mono _ _ | exact impl_Table_isOpen.mono _ _ _ _ | exact impl_Table_keysIn.mono _ _ _ | exact impl_compareEntries.mono _ _ _ _ _ | exact impl_entryOf.mono _ _ | exact LeO.refl _ | exact LeO.none _ | refine LeO.ite ?_ ?_ | refine LeO.bind ?_ (fun _ => ?_)) | exact ih0 _ _ _ | exact ih1 _ _ _ _ _ | exact ih2 _ _ _ _ _ _ _ _ | exact ih3 _ _ _ _ _ | exact impl_ItemOk.mono _ _ _ _ | exact impl_Parent.mono _ _ | exact impl_Table_isOpen.mono _ _ _ _ | exact impl_Table_keysIn.mono _ _ _ | exact impl_compareEntries.mono _ _ _ _ _ | exact impl_entryOf.mono _ _ | exact LeO.none _ | refine LeO.ite ?_ ?_ | refine LeO.bind ?_ (fun _ => ?_)
  ·intro y0 y1 y2 y3 y4
   unfold impl_TableOk.l1
   repeat' first | (with_reducible first | exact ih0 _ _ _ | exact ih1 _ _ _ _ _ | exact ih2 _ _ _ _ _ _ _ _ | exact ih3 _ _ _ _ _ | exact impl_ItemOk.mono _ _ _ _ | exact impl_Parent.mono _ _ | exact impl_Table_isOpen.mono _ _ _ _ | exact impl_Table_keysIn.mono _ _ _ | exact impl_compareEntries.mono _ _ _ _ _ | exact impl_entryOf.mono _ _ | exact LeO.refl _ | exact LeO.none _ | refine LeO.ite ?_ ?_ | refine LeO.bind ?_ (fun _ => ?_)) | exact ih0 _ _ _ | exact ih1 _ _ _ _ _ | exact ih2 _ _ _ _ _ _ _ _ | exact ih3 _ _ _ _ _ | exact impl_ItemOk.mono _ _ _ _ | exact impl_Parent.mono _ _ | exact impl_Table_isOpen.mono _ _ _ _ | exact impl_Table_keysIn.mono _ _ _ | exact impl_compareEntries.mono _ _ _ _ _ | exact impl_entryOf.mono _ _ | exact LeO.none _ | refine LeO.ite ?_ ?_ | refine LeO.bind ?_ (fun _ => ?_)
theorem impl_TableOk.mono : ∀ a0 a1 k, LeO (impl_TableOk.f k a0 a1) (impl_TableOk.f (k + 1) a0 a1) := by
 intro a0 a1 k
 obtain ⟨ih0, ih1, ih2, ih3⟩ := impl_TableOk.mono_l k
 unfold impl_TableOk.f
 repeat' first | (with_reducible first | exact ih0 _ _ _ | exact ih1 _ _ _ _ _ | exact ih2 _ _ _ _ _ _ _ _ | exact ih3 _ _ _ _ _ | exact impl_ItemOk.mono _ _ _ _ | exact impl_Parent.mono _ _ | exact impl_Table_isOpen.mono _ _ _ _ | exact impl_Table_keysIn.mono _ _ _ | exact impl_compareEntries.mono _ _ _ _ _ | exact impl_entryOf.mono _ _ | exact LeO.refl _ | exact LeO.none _ | refine LeO.ite ?_ ?_ | refine LeO.bind ?_ (fun _ => ?_)) | exact ih0 _ _ _ | exact ih1 _ _ _ _ _ | exact ih2 _ _ _ _ _ _ _ _ | exact ih3 _ _ _ _ _ | exact impl_ItemOk.mono _ _ _ _ | exact impl_Parent.mono _ _ | exact impl_Table_isOpen.mono _ _ _ _ | exact impl_Table_keysIn.mono _ _ _ | exact impl_compareEntries.mono _ _ _ _ _ | exact impl_entryOf.mono _ _ | exact LeO.none _ | refine LeO.ite ?_ ?_ | refine LeO.bind ?_ (fun _ => ?_)
def impl_TableOk.T6 : Bool × List (List Nat × List Nat) := (true, [([], []), ([0], [0]), ([1], [1]), ([2], [2]), ([3, 2], [2, 3]), ([2], [2]), ([5, 2], [2, 5]), ([4, 6, 2], [2, 4, 6]), ([7, 2], [2, 7]), ([2], [2]), ([8, 9, 2, 2], [2, 8, 9]), ([10, 2], [2, 10]), ([2, 11], [2, 11])])
def impl_TableOk.B6 : List Nat := [0, 1, 3, 7, 15, 7, 39, 127, 255, 7, 1023, 2047, 4095]
theorem impl_TableOk.tab6 : rtab .any (opsOf Try.f7 6) = impl_TableOk.T6 := by kernel_rfl
theorem impl_TableOk.bits6 : waitsOk impl_TableOk.T6.2 impl_TableOk.B6 = true := by kernel_rfl
def impl_TableOk.T8 : Bool × List (List Nat × List Nat) := (true, [([], []), ([0], [0]), ([1], [1]), ([2], [2]), ([3], [3]), ([4, 3], [3, 4]), ([5, 3], [3, 5]), ([6, 3, 3], [3, 6]), ([7, 3], [3, 7]), ([8, 7, 3], [3, 8]), ([9], [9]), ([9], [9]), ([11, 9], [9, 11]), ([12, 9, 9], [9, 12]), ([10, 13, 9], [9, 10, 13]), ([9, 14, 3], [3, 9, 14]), ([3, 15], [3, 15])])
def impl_TableOk.B8 : List Nat := [0, 1, 3, 7, 15, 31, 63, 127, 255, 511, 1023, 1023, 3071, 7167, 16383, 32767, 65535]
theorem impl_TableOk.tab8 : rtab .any (opsOf Try.f7 8) = impl_TableOk.T8 := by kernel_rfl
theorem impl_TableOk.bits8 : waitsOk impl_TableOk.T8.2 impl_TableOk.B8 = true := by kernel_rfl
def impl_TableOk.T20 : Bool × List (List Nat × List Nat) := (true, [([], []), ([0], [0]), ([1, 1], [1]), ([2], [2]), ([2], [2]), ([4, 2], [2, 4]), ([5, 2], [2, 5]), ([2], [2]), ([7, 2, 2], [2, 7]), ([6, 8, 2], [2, 6, 8]), ([3, 9, 2], [2, 3, 9]), ([2, 10], [2, 10]), ([11, 8, 0, 1, 2, 3, 4, 5, 6, 7, 8, 9, 10, 11], [11])])
def impl_TableOk.B20 : List Nat := [0, 1, 3, 7, 7, 23, 55, 7, 135, 503, 1023, 2047, 4095]
theorem impl_TableOk.tab20 : rtab .any (opsOf Try.f7 20) = impl_TableOk.T20 := by kernel_rfl
theorem impl_TableOk.bits20 : waitsOk impl_TableOk.T20.2 impl_TableOk.B20 = true := by kernel_rfl
theorem impl_TableOk.z0 {P : Prop} (h : P := by repeat (first | (with_reducible first | exact HB.out | apply below_alloc | apply pw_below_drewN | apply below_drew1 | refine below_set ?_ GE426.out | refine below_set ?_ GE430.out) | exact HB.out)) : P := h
theorem impl_TableOk.z1 {P : Prop} (h : P := by repeat (first | (with_reducible first | exact HB.out | apply below_alloc | apply pw_below_drewN | apply below_drew1 | refine below_set ?_ GE426.out) | exact HB.out)) : P := h
set_option maxHeartbeats 8000000 in
set_option maxRecDepth 100000 in
theorem impl_TableOk.calls (k : Nat) (a0_0 : Int) (A0_1 : Option Addr) (c0_1 : Nat) (l0_1 : List (S49)) (r : Bool) (w : World) (hr0_1 : Kd.C k49 w A0_1 l0_1.length l0_1) (hc0_1 : l0_1.length ≤ c0_1) (h : impl_TableOk.f k a0_0 l0_1 = some r) :
  Calls Try.prog 7 #[.agg #[.int .i64 a0_0, .slice A0_1 l0_1.length c0_1]] w fun e w' => e = .returned (.bool r) ∧ Below w.heap.size w w' := by
 have hu25 := Try.underlying25
 have hu49 := Try.underlying49
 have hu55 := Try.underlying55
 have HR0_1 := Aside0.mk hr0_1
 have HC0_1 := Aside0.mk hc0_1
 clear hr0_1 hc0_1
 have HB := Aside0.mk (Below.refl w.heap.size w)
 have H : ((impl_within.f a0_0 1 64).bind fun t427 => (if t427 = true then (if (Go.bits .and .i64 a0_0 (wrap64 (a0_0 - 1))) = 0 then ((impl_Table_keysIn.f k a0_0 l0_1).bind fun t428 => (impl_TableOk.j0 k (decide (t428 > 200)) a0_0 l0_1)) else (impl_TableOk.j0 k true a0_0 l0_1)) else (impl_TableOk.j0 k true a0_0 l0_1))) = some r := h
 clear h
 have HC2 := Aside0.mk H
 clear H
 go_enter Try.func7, Try.ntmps7
 go_upto_region 1 with (first | ((with_reducible refine gate_dst (N := 1) rfl ?_); (try (refine gate_guard (by rfl) ?_; dsimp only)); refine box_event ?hg (N := 1) ?hd (cs := #[.int .i64 a0_0, .slice A0_1 l0_1.length c0_1]) (t := 25) ?hr ?_; (case hd => rfl); (case hg => rfl); (case hr => first | (go_simp; done) | (go_simp; rfl)); intro gb426 hg w3 hbox hb; have n_ : _ ∧ _ ∧ _ ∧ _ := ⟨AsM (below_step BL hb), AsM (hbox), AsM ((GL : w.heap.size ≤ gb426)), AsM ((GL : w.heap.size ≤ gb426))⟩; clear HB; obtain ⟨HB, BK426, GW426, GE426⟩ := n_; clear hb hbox hg))
 (try simp only [Act.put, List.setIfInBounds_toArray, List.set_cons_zero, List.set_cons_succ])
 go_cut [24] (fun v24 wc => ∃ (kq : Nat) (x24_1 : Bool), v24 = .bool x24_1 ∧ Aside0 (impl_TableOk.j0 kq x24_1 a0_0 l0_1 = some r) ∧ Aside0 (kq ≤ k) ∧ Aside0 (wc.heap[gb426]? = some (.cells #[.int .i64 a0_0, (.slice A0_1 l0_1.length c0_1)] 25 (0, 0))) ∧ Aside0 (Below w.heap.size w wc))
 case first =>
  have H := HC2.out
  clear HC2
  replace H := BS H
  obtain ⟨t427, A40, H⟩ := H
  have A4 := Aside0.mk A40
  clear A40
  by_cases c5 : t427 = true
  ·subst c5
   replace H := IP H
   by_cases c6 : (Go.bits .and .i64 a0_0 (wrap64 (a0_0 - 1))) = 0
   ·rw [if_pos c6] at H
    have c6b0 : ((Go.bits .and .i64 a0_0 (wrap64 (a0_0 - 1))) == 0) = true := beq_iff_eq.mpr c6
    have c6b1 : ((Go.bits .and .i64 a0_0 (wrap64 (a0_0 - 1))) != 0) = false := bne_eq_false_iff_eq.mpr c6
    clear c6
    (first | rw [c6b0] | (simp only [i64_w, i32_w]; rw [c6b0]) | skip)
    replace H := BS H
    obtain ⟨t428, A70, H⟩ := H
    have A7 := Aside0.mk A70
    clear A70
    have H' := Aside0.mk H
    clear H
    obtain ⟨hcz8_0, hcz8_1, hfz8_0, hfz8_1⟩ := bk2 BK426.out
    go_wp2_with (first | ((with_reducible refine gate_callee (f := 23) rfl ?_); refine goesL_ (some 9) rfl rfl Try.func23 (by kernel_rfl) rfl #[.int .i64 a0_0, .int .i64 1, .int .i64 64] rfl AQ ?_; (with_reducible refine (impl_within.calls a0_0 1 64 true _ A4.out).mono ?_); rintro e w' ⟨rfl, ⟨nd, rfl⟩⟩; refine ⟨_, rfl, ?_⟩) | (go_at_call 24; (with_reducible refine (impl_Table_keysIn.calls k a0_0 _ _ l0_1 t428 _ ?side1 ?side2 A7.out).mono ?_); (case side1 => repeat (first | exact (Kd.C_below HR0_1.out BG) | (with_reducible refine Kd.C_alloc ?_ _) | (with_reducible refine Kd.C_drewN ?_ _) | (with_reducible refine Kd.C_drew ?_))); (case side2 => exact HC0_1.out); rintro e w9 ⟨rfl, hb⟩; have n_ : _ ∧ _ := ⟨AsM (blk_below (BD BK426) hb), AsM (below_step BG hb)⟩; clear BK426 HB; obtain ⟨BK426, HB⟩ := n_; (try clear hb); (try clear hb2); (try clear hk); (try clear hi)))
    go_meet
    case rel => exact ⟨_, (decide (t428 > 200)), RS, H', ⟨by first | omega | exact Nat.le_refl _⟩, ⟨BD BK426⟩, ⟨impl_TableOk.z1⟩⟩
   ·rw [if_neg c6] at H
    have c6b0 : ((Go.bits .and .i64 a0_0 (wrap64 (a0_0 - 1))) == 0) = false := beq_eq_false_iff_ne.mpr c6
    have c6b1 : ((Go.bits .and .i64 a0_0 (wrap64 (a0_0 - 1))) != 0) = true := bne_iff_ne.mpr c6
    (first | rw [c6b0] | (simp only [i64_w, i32_w]; rw [c6b0]) | skip)
    have H' := Aside0.mk H
    clear H
    obtain ⟨hcz10_0, hcz10_1, hfz10_0, hfz10_1⟩ := bk2 BK426.out
    go_wp2_with (first | ((with_reducible refine gate_callee (f := 23) rfl ?_); refine goesL_ (some 9) rfl rfl Try.func23 (by kernel_rfl) rfl #[.int .i64 a0_0, .int .i64 1, .int .i64 64] rfl AQ ?_; (with_reducible refine (impl_within.calls a0_0 1 64 true _ A4.out).mono ?_); rintro e w' ⟨rfl, ⟨nd, rfl⟩⟩; refine ⟨_, rfl, ?_⟩))
    go_meet
    case rel => exact ⟨_, (true), RS, H', ⟨by first | omega | exact Nat.le_refl _⟩, ⟨BD BK426⟩, ⟨impl_TableOk.z1⟩⟩
  ·replace c5 := Bool.eq_false_iff.mpr c5
   subst c5
   replace H := IN H
   have H' := Aside0.mk H
   clear H
   obtain ⟨hcz11_0, hcz11_1, hfz11_0, hfz11_1⟩ := bk2 BK426.out
   go_wp2_with (first | ((with_reducible refine gate_callee (f := 23) rfl ?_); refine goesL_ (some 9) rfl rfl Try.func23 (by kernel_rfl) rfl #[.int .i64 a0_0, .int .i64 1, .int .i64 64] rfl AQ ?_; (with_reducible refine (impl_within.calls a0_0 1 64 false _ A4.out).mono ?_); rintro e w' ⟨rfl, ⟨nd, rfl⟩⟩; refine ⟨_, rfl, ?_⟩; (try (rw [drewN_self w3]; generalize hq_ : World.drewN w3 _ = w3; have n0_ : Aside0 (w3.heap[gb426]? = some (.cells #[.int .i64 a0_0, .slice A0_1 l0_1.length c0_1] 25 (0, 0))) := ⟨by rw [← hq_]; exact (BD BK426)⟩; have n1_ : Aside0 (Below w.heap.size w w3) := ⟨by rw [← hq_]; exact BG⟩; clear BK426 HB hq_; have BK426 := n0_; have HB := n1_; clear n0_ n1_))))
   go_meet
   case rel => exact ⟨_, (true), RS, H', ⟨by first | omega | exact Nat.le_refl _⟩, ⟨BD BK426⟩, ⟨impl_TableOk.z1⟩⟩
 case rest =>
  clear HC2
  try clear c2
  try clear p2
  try clear c5
  try clear c6
  try clear c6b0
  try clear c6b1
  try clear p6
  try clear c7
  try clear hcz10_0
  try clear hcz10_1
  try clear hcz11_0
  try clear hcz11_1
  try clear hcz8_0
  try clear hcz8_1
  try clear hfz10_0
  try clear hfz10_1
  try clear hfz11_0
  try clear hfz11_1
  try clear hfz8_0
  try clear hfz8_1
  obtain ⟨kq, x24_1, rfl, HA, HJ1, BK426, HB⟩ := hcut
  cases kq with
  | zero => exact absurd HA.out (by simp [impl_TableOk.j0])
  | succ kj1 =>
   have H := HA.out
   clear HA
   simp only [impl_TableOk.j0] at H
   by_cases c12 : x24_1 = true
   ·subst c12
    replace H := IP H
    obtain rfl := Option.some.inj H
    go_wp2
    go_ret
    exact ⟨ER, BG⟩
   ·replace c12 := Bool.eq_false_iff.mpr c12
    subst c12
    replace H := IN H
    have H' := Aside0.mk H
    clear H
    obtain ⟨hcz13_0, hcz13_1, hfz13_0, hfz13_1⟩ := bk2 BK426.out
    go_wp2
    go_loopg [28] kj1 (fun kq v28 w' => ∃ (x28_2 : Int), v28 = .int .i64 x28_2 ∧ Aside0 (impl_TableOk.l0 kq l0_1 (l0_1.length : Int) x28_2 a0_0 l0_1 = some r) ∧ Aside0 (kq ≤ kj1) ∧ Aside0 (w'.heap[gb426]? = some (.cells #[.int .i64 a0_0, (.slice A0_1 l0_1.length c0_1)] 25 (0, 0))) ∧ Aside0 (Below w.heap.size w w'))
    case atStart => exact ⟨(0), RS, H', ⟨Nat.le_refl _⟩, ⟨BD BK426⟩, ⟨impl_TableOk.z1⟩⟩
    case round =>
     clear H'
     try clear c1
     try clear c2
     try clear p2
     try clear c5
     try clear c6
     try clear c6b0
     try clear c6b1
     try clear p6
     try clear c7
     try clear c12
     try clear hcz10_0
     try clear hcz10_1
     try clear hcz11_0
     try clear hcz11_1
     try clear hcz13_0
     try clear hcz13_1
     try clear hcz8_0
     try clear hcz8_1
     try clear hfz10_0
     try clear hfz10_1
     try clear hfz11_0
     try clear hfz11_1
     try clear hfz13_0
     try clear hfz13_1
     try clear hfz8_0
     try clear hfz8_1
     try clear p2
     try clear p6
     obtain ⟨x28_2, rfl, HA, HK2, BK426, HB⟩ := hrel
     cases gk with
     | zero => exact absurd HA.out (by simp [impl_TableOk.l0])
     | succ k2 =>
      have H := HA.out
      clear HA
      simp only [impl_TableOk.l0] at H
      by_cases c14 : x28_2 < (l0_1.length : Int)
      ·rw [if_pos c14] at H
       have c14b0 : decide (x28_2 < (l0_1.length : Int)) = true := decide_eq_true c14
       clear c14
       by_cases c15 : 0 ≤ x28_2
       ·rw [if_pos c15] at H
        have c15b0 : decide (0 ≤ x28_2) = true := decide_eq_true c15
        clear c15
        by_cases c16 : x28_2 < (l0_1.length : Int)
        ·rw [if_pos c16] at H
         have c16b0 : decide (x28_2 < (l0_1.length : Int)) = true := decide_eq_true c16
         clear c16
         have HC17 := Aside0.mk H
         clear H
         have p429 : 0 ≤ (x28_2 : Int) := of_decide_eq_true AS
         have q429 : x28_2 < (l0_1.length : Int) := of_decide_eq_true AS
         obtain ⟨ad429, e429, hx429_0, hx429_1⟩ := at_T49 HR0_1.out x28_2 p429 q429
         cases e429
         replace hx429_0 := (HB.out.cell (World.block_lt_of_cell? w _ hx429_0)).trans hx429_0
         replace hx429_1 := (HB.out.cell (World.block_lt_of_cell? w _ hx429_1)).trans hx429_1
         replace p429 := eq_true p429
         replace q429 := eq_true q429
         go_upto_region 6 with (first | ((with_reducible refine gate_dst (N := 4) rfl ?_); (try (refine gate_guard (by rfl) ?_; dsimp only)); refine box_event ?hg (N := 4) ?hd (cs := #[.int .i64 0, .string (⟨#[]⟩ : ByteArray)]) (t := 49) ?hr ?_; (case hd => rfl); (case hg => rfl); (case hr => first | (go_simp; done) | (go_simp; rfl)); intro gb430 hg w18 hbox hb; have n_ : _ ∧ _ ∧ _ ∧ _ ∧ _ ∧ _ ∧ _ := ⟨AsM (blk_below (BD BK426) hb), AsM (below_step BG hb), AsM (hbox), AsM ((GM : w.heap.size ≤ gb430)), AsM ((GM : w.heap.size ≤ gb430)), AsM ((by rw [hg]; exact Nat.ne_of_lt (blk_lt (BD BK426)) : gb426 ≠ gb430)), AsM ((by rw [hg]; exact Nat.ne_of_gt (blk_lt (BD BK426)) : gb430 ≠ gb426))⟩; clear BK426 HB; obtain ⟨BK426, HB, BK430, GW430, GE430, NB426_430, NB430_426⟩ := n_; clear hb hbox hg; have hnb19 := NB430_426.out; have hnc19 := NB426_430.out; obtain ⟨hcz20_0, hcz20_1, hfz20_0, hfz20_1⟩ := bk2 BK430.out))
         (try simp only [Act.put, List.setIfInBounds_toArray, List.set_cons_zero, List.set_cons_succ])
         go_cut [45] (fun v45 wc => ∃ (kq : Nat) (x45_16 : Bool), v45 = .bool x45_16 ∧ Aside0 (impl_TableOk.j2 kq l0_1 (l0_1.length : Int) x28_2 x45_16 a0_0 l0_1 ((rd_T49 l0_1 x28_2).f0) ((rd_T49 l0_1 x28_2).f1) = some r) ∧ Aside0 (kq ≤ k2) ∧ Aside0 (wc.heap[gb426]? = some (.cells #[.int .i64 a0_0, (.slice (some ad429) l0_1.length c0_1)] 25 (0, 0))) ∧ Aside0 (wc.heap[gb430]? = some (.cells #[.int .i64 ((rd_T49 l0_1 x28_2).f0), .string ((rd_T49 l0_1 x28_2).f1)] 49 (0, 0))) ∧ Aside0 (Below w.heap.size w wc))
         case first =>
          have H := HC17.out
          clear HC17
          by_cases c21 : x28_2 > 0
          ·rw [if_pos c21] at H
           have c21b0 : decide (0 < x28_2) = true := decide_eq_true c21
           clear c21
           (first | rw [c21b0] | (simp only [i64_w, i32_w]; rw [c21b0]) | skip)
           obtain ⟨ji22, hji22⟩ : ∃ j_ : Int, (wrap64 (x28_2 - 1)) = j_ := ⟨_, rfl⟩
           replace H : (if 0 ≤ (ji22) then (if (ji22) < (l0_1.length : Int) then ((impl_compareEntries.f k2 ((rd_T49 l0_1 (ji22)).f0) ((rd_T49 l0_1 (ji22)).f1) ((rd_T49 l0_1 x28_2).f0) ((rd_T49 l0_1 x28_2).f1)).bind fun t432 => (impl_TableOk.j2 k2 l0_1 (l0_1.length : Int) x28_2 (decide (t432 ≥ 0)) a0_0 l0_1 ((rd_T49 l0_1 x28_2).f0) ((rd_T49 l0_1 x28_2).f1))) else (none)) else (none)) = some r := by first | (rw [hji22] at H; exact H) | (simp only [hji22] at H ⊢; exact H)
           have hji22w : (IntKind.i64.wrap (x28_2 - 1)) = ji22 := (i64_w _).trans hji22
           by_cases c23 : 0 ≤ (ji22)
           ·rw [if_pos c23] at H
            have c23b0 : decide (0 ≤ (ji22)) = true := decide_eq_true c23
            clear c23
            by_cases c24 : (ji22) < (l0_1.length : Int)
            ·rw [if_pos c24] at H
             have c24b0 : decide ((ji22) < (l0_1.length : Int)) = true := decide_eq_true c24
             clear c24
             replace H := BS H
             obtain ⟨t432, A250, H⟩ := H
             have A25 := Aside0.mk A250
             clear A250
             have H' := Aside0.mk H
             clear H
             try go_wp2
             have n0_ : Aside0 (((w18.setCell ⟨gb430, 0, none⟩ (.int .i64 ((rd_T49 l0_1 x28_2).f0))).setCell ⟨gb430, 1, none⟩ (.string ((rd_T49 l0_1 x28_2).f1))).heap[gb426]? = some (.cells #[.int .i64 a0_0, .slice (some ad429) l0_1.length c0_1] 25 (0, 0))) := ⟨by refine PX ?_; refine blk_far ?_ NB426_430.out _; refine PX ?_; refine blk_far ?_ NB426_430.out _; exact BD BK426⟩
             have n1_ : Aside0 (((w18.setCell ⟨gb430, 0, none⟩ (.int .i64 ((rd_T49 l0_1 x28_2).f0))).setCell ⟨gb430, 1, none⟩ (.string ((rd_T49 l0_1 x28_2).f1))).heap[gb430]? = some (.cells #[.int .i64 ((rd_T49 l0_1 x28_2).f0), .string ((rd_T49 l0_1 x28_2).f1)] 49 (0, 0))) := ⟨by refine PX ?_; refine blk_put (cs := #[.int .i64 ((rd_T49 l0_1 x28_2).f0), .string (⟨#[]⟩ : ByteArray)]) ?_ 1 _ rfl; refine PX ?_; refine blk_put (cs := #[.int .i64 0, .string (⟨#[]⟩ : ByteArray)]) ?_ 0 _ rfl; exact BD BK430⟩
             have n2_ : Aside0 (Below w.heap.size w ((w18.setCell ⟨gb430, 0, none⟩ (.int .i64 ((rd_T49 l0_1 x28_2).f0))).setCell ⟨gb430, 1, none⟩ (.string ((rd_T49 l0_1 x28_2).f1)))) := ⟨impl_TableOk.z0⟩
             (try clear BK426)
             (try clear BK430)
             (try clear HB)
             generalize ((w18.setCell ⟨gb430, 0, none⟩ (.int .i64 ((rd_T49 l0_1 x28_2).f0))).setCell ⟨gb430, 1, none⟩ (.string ((rd_T49 l0_1 x28_2).f1))) = w26 at n0_ n1_ n2_ ⊢
             have BK426 := n0_
             have BK430 := n1_
             have HB := n2_
             clear n0_ n1_ n2_
             have n_ : _ ∧ _ ∧ _ := ⟨AsM (blk_drew BK426.out), AsM (blk_drew BK430.out), AsM (below_drew1 HB.out)⟩
             clear BK426 BK430 HB
             obtain ⟨BK426, BK430, HB⟩ := n_
             have p431 : 0 ≤ ((ji22) : Int) := of_decide_eq_true AS
             have q431 : (ji22) < (l0_1.length : Int) := of_decide_eq_true AS
             obtain ⟨ad431, e431, hx431_0, hx431_1⟩ := at_T49 HR0_1.out (ji22) p431 q431
             have hw431_1 := hx431_1
             have hw431_0 := hx431_0
             obtain rfl : ad429 = ad431 := (by injection e431)
             replace hx431_0 := (HB.out.cell (World.block_lt_of_cell? w _ hx431_0)).trans hx431_0
             replace hx431_1 := (HB.out.cell (World.block_lt_of_cell? w _ hx431_1)).trans hx431_1
             replace p431 := eq_true p431
             replace q431 := eq_true q431
             refine start_ (n := 13) (S := fun w' => w'.cell? ⟨gb426, 0, none⟩ = some (.int .i64 a0_0) ∧ w'.cell? ⟨gb426, 1, none⟩ = some (.slice (some ad429) l0_1.length c0_1) ∧ w'.cell? ⟨gb430, 0, none⟩ = some (.int .i64 ((rd_T49 l0_1 x28_2).f0)) ∧ w'.cell? ⟨gb430, 1, none⟩ = some (.string ((rd_T49 l0_1 x28_2).f1)) ∧ w'.cell? (ad429.add (((ji22)).toNat * 2)) = some (.int .i64 ((rd_T49 l0_1 (ji22)).f0)) ∧ w'.cell? ⟨(ad429.add (((ji22)).toNat * 2)).block, (ad429.add (((ji22)).toNat * 2)).off + 1, none⟩ = some (.string ((rd_T49 l0_1 (ji22)).f1))) (ds := []) #[false, false, false, false, false, false, false, false, false, false, false, false, false] (by kernel_rfl) rfl rfl ⟨(blk_cell BK426.out 0).trans rfl, (blk_cell BK426.out 1).trans rfl, (blk_cell BK430.out 0).trans rfl, (blk_cell BK430.out 1).trans rfl, ((HB.out.cell (World.block_lt_of_cell? w _ hw431_0)).trans hw431_0), ((HB.out.cell (World.block_lt_of_cell? w _ hw431_1)).trans hw431_1)⟩ (fun hHeld => ?_); refine with_tabW impl_TableOk.tab6 impl_TableOk.bits6 (fun HT_ HW_ => ?_)
             generalize w26.drew = w27 at BK426 BK430 HB hx431_0 hx431_1 hHeld ⊢
             refine PU (i := 0) (N := some 33) (tf 1 12) rfl rfl HT_ ?_
             refine PU (i := 1) (N := some 34) (tf 2 11) rfl rfl HT_ ?_
             refine PU (i := 2) (N := some 35) (tf 3 10) rfl rfl HT_ ?_
             refine PU (i := 3) (N := some 36) (tf 4 9) rfl rfl HT_ ?_
             refine PU (i := 5) (N := some 38) #[true, true, true, true, false, true, false, false, false, false, false, false, false] rfl rfl HT_ ?_
             refine PU (i := 6) (N := some 39) #[true, true, true, true, false, true, true, false, false, false, false, false, false] rfl rfl HT_ ?_
             refine PT (i := 4) (N := some 37) (tf 7 6) rfl rfl HT_ HW_ hHeld ?_
             refine PU (i := 7) (N := some 40) (tf 8 5) rfl rfl HT_ ?_
             refine PT (i := 8) (N := some 41) (tf 9 4) rfl rfl HT_ HW_ hHeld ?_
             refine PT (i := 9) (N := some 42) (tf 10 3) rfl rfl HT_ HW_ hHeld ?_
             refine one_ (i := 10) (N := some 43) (tf 11 2) rfl rfl (one_of HT_.out (by kernel_rfl)) (by decide) (fun K hK => ?_)
             refine goes_ Try.func25 (by kernel_rfl) rfl #[.agg #[.int .i64 ((rd_T49 l0_1 (ji22)).f0), .string ((rd_T49 l0_1 (ji22)).f1)], .agg #[.int .i64 ((rd_T49 l0_1 x28_2).f0), .string ((rd_T49 l0_1 x28_2).f1)]] (by rfl) rfl rfl (by (try simp only [List.map_toArray, List.map_cons, List.map_nil]); first | done | (simp only [hji22]; rfl) | rfl | (simp only [List.length_drop, List.length_take]; rfl)) ?_
             with_reducible refine (impl_compareEntries.calls k2 ((rd_T49 l0_1 (ji22)).f0) ((rd_T49 l0_1 (ji22)).f1) ((rd_T49 l0_1 x28_2).f0) ((rd_T49 l0_1 x28_2).f1) t432 _ A25.out).mono ?_
             rintro e w28 ⟨rfl, hb⟩
             refine ⟨_, rfl, ?_⟩
             have n_ : _ ∧ _ ∧ _ := ⟨AsM (blk_below (BD BK426) hb), AsM (blk_below (BD BK430) hb), AsM (below_step BG hb)⟩
             clear BK426 BK430 HB
             obtain ⟨BK426, BK430, HB⟩ := n_
             (try clear hb)
             (try clear hb2)
             (try clear hk)
             (try clear hi)
             refine hK.out _ _ ⟨(blk_cell BK426.out 0).trans rfl, (blk_cell BK426.out 1).trans rfl, (blk_cell BK430.out 0).trans rfl, (blk_cell BK430.out 1).trans rfl, ((HB.out.cell (World.block_lt_of_cell? w _ hw431_0)).trans hw431_0), ((HB.out.cell (World.block_lt_of_cell? w _ hw431_1)).trans hw431_1)⟩ (fun hHeld => ?_)
             clear hK K
             refine NM (some 43) ?_
             refine PU (i := 11) (N := some 44) (tf 12 1) rfl rfl HT_ ?_
             refine PU (i := 12) (N := some 45) (tf 13 0) rfl rfl HT_ ?_
             refine done_ (done_of HT_.out (by kernel_rfl)) ?_
             try go_wp2
             go_meet
             case rel => exact ⟨_, (decide (t432 ≥ 0)), RS, H', ⟨by have := HJ1.out; have := HK2.out; first | omega | exact Nat.le_refl _⟩, ⟨BD BK426⟩, ⟨BD BK430⟩, ⟨impl_TableOk.z0⟩⟩
            ·rw [if_neg c24] at H
             exact absurd H (by simp)
           ·rw [if_neg c23] at H
            exact absurd H (by simp)
          ·rw [if_neg c21] at H
           have c21b0 : decide (0 < x28_2) = false := decide_eq_false c21
           clear c21
           (first | rw [c21b0] | (simp only [i64_w, i32_w]; rw [c21b0]) | skip)
           have H' := Aside0.mk H
           clear H
           try go_wp2
           have n0_ : Aside0 (((w18.setCell ⟨gb430, 0, none⟩ (.int .i64 ((rd_T49 l0_1 x28_2).f0))).setCell ⟨gb430, 1, none⟩ (.string ((rd_T49 l0_1 x28_2).f1))).heap[gb426]? = some (.cells #[.int .i64 a0_0, .slice (some ad429) l0_1.length c0_1] 25 (0, 0))) := ⟨by refine PX ?_; refine blk_far ?_ NB426_430.out _; refine PX ?_; refine blk_far ?_ NB426_430.out _; exact BD BK426⟩
           have n1_ : Aside0 (((w18.setCell ⟨gb430, 0, none⟩ (.int .i64 ((rd_T49 l0_1 x28_2).f0))).setCell ⟨gb430, 1, none⟩ (.string ((rd_T49 l0_1 x28_2).f1))).heap[gb430]? = some (.cells #[.int .i64 ((rd_T49 l0_1 x28_2).f0), .string ((rd_T49 l0_1 x28_2).f1)] 49 (0, 0))) := ⟨by refine PX ?_; refine blk_put (cs := #[.int .i64 ((rd_T49 l0_1 x28_2).f0), .string (⟨#[]⟩ : ByteArray)]) ?_ 1 _ rfl; refine PX ?_; refine blk_put (cs := #[.int .i64 0, .string (⟨#[]⟩ : ByteArray)]) ?_ 0 _ rfl; exact BD BK430⟩
           have n2_ : Aside0 (Below w.heap.size w ((w18.setCell ⟨gb430, 0, none⟩ (.int .i64 ((rd_T49 l0_1 x28_2).f0))).setCell ⟨gb430, 1, none⟩ (.string ((rd_T49 l0_1 x28_2).f1)))) := ⟨impl_TableOk.z0⟩
           (try clear BK426)
           (try clear BK430)
           (try clear HB)
           generalize ((w18.setCell ⟨gb430, 0, none⟩ (.int .i64 ((rd_T49 l0_1 x28_2).f0))).setCell ⟨gb430, 1, none⟩ (.string ((rd_T49 l0_1 x28_2).f1))) = w29 at n0_ n1_ n2_ ⊢
           have BK426 := n0_
           have BK430 := n1_
           have HB := n2_
           clear n0_ n1_ n2_
           have n_ : _ ∧ _ ∧ _ := ⟨AsM (blk_drew BK426.out), AsM (blk_drew BK430.out), AsM (below_drew1 HB.out)⟩
           clear BK426 BK430 HB
           obtain ⟨BK426, BK430, HB⟩ := n_
           refine start_ (n := 13) (S := fun w' => True) (ds := []) #[false, false, false, false, false, false, false, false, false, false, false, false, false] (by kernel_rfl) rfl rfl trivial (fun hHeld => ?_); refine with_tabW impl_TableOk.tab6 impl_TableOk.bits6 (fun HT_ HW_ => ?_)
           generalize w29.drew = w30 at BK426 BK430 HB hHeld ⊢
           refine PU (i := 0) (N := some 33) (tf 1 12) rfl rfl HT_ ?_
           refine PU (i := 1) (N := some 34) (tf 2 11) rfl rfl HT_ ?_
           refine PU (i := 2) (N := some 35) (tf 3 10) rfl rfl HT_ ?_
           refine PN (i := 3) (N := some 36) (tf 4 9) rfl rfl HT_ ?_
           refine PN (i := 4) (N := some 37) (tf 5 8) rfl rfl HT_ ?_
           refine PN (i := 5) (N := some 38) (tf 6 7) rfl rfl HT_ ?_
           refine PN (i := 6) (N := some 39) (tf 7 6) rfl rfl HT_ ?_
           refine PN (i := 7) (N := some 40) (tf 8 5) rfl rfl HT_ ?_
           refine PN (i := 8) (N := some 41) (tf 9 4) rfl rfl HT_ ?_
           refine PN (i := 9) (N := some 42) (tf 10 3) rfl rfl HT_ ?_
           refine PN (i := 10) (N := some 43) (tf 11 2) rfl rfl HT_ ?_
           refine PN (i := 11) (N := some 44) (tf 12 1) rfl rfl HT_ ?_
           refine PU (i := 12) (N := some 45) (tf 13 0) rfl rfl HT_ ?_
           refine done_ (done_of HT_.out (by kernel_rfl)) ?_
           try go_wp2
           go_meet
           case rel => exact ⟨_, (false), RS, H', ⟨by have := HJ1.out; have := HK2.out; first | omega | exact Nat.le_refl _⟩, ⟨BD BK426⟩, ⟨BD BK430⟩, ⟨impl_TableOk.z0⟩⟩
         case rest =>
          clear HC17
          try clear c1
          try clear c2
          try clear p2
          try clear p4
          try clear q4
          try clear hx4
          try clear c5
          try clear c6
          try clear c6b0
          try clear c6b1
          try clear p6
          try clear c7
          try clear c12
          try clear c14
          try clear c14b0
          try clear c15
          try clear c15b0
          try clear c16
          try clear c16b0
          try clear c19
          try clear c21
          try clear c21b0
          try clear c23
          try clear c23b0
          try clear c24
          try clear c24b0
          try clear c25
          try clear hcz10_0
          try clear hcz10_1
          try clear hcz11_0
          try clear hcz11_1
          try clear hcz13_0
          try clear hcz13_1
          try clear hcz20_0
          try clear hcz20_1
          try clear hcz8_0
          try clear hcz8_1
          try clear hfz10_0
          try clear hfz10_1
          try clear hfz11_0
          try clear hfz11_1
          try clear hfz13_0
          try clear hfz13_1
          try clear hfz20_0
          try clear hfz20_1
          try clear hfz8_0
          try clear hfz8_1
          try clear hx429_0
          try clear hx429_1
          try clear hx431_0
          try clear hx431_1
          try clear p2
          try clear p429
          try clear p431
          try clear p6
          try clear q429
          try clear q431
          obtain ⟨kq, x45_16, rfl, HA, HJ16, BK426, BK430, HB⟩ := hcut
          cases kq with
          | zero => exact absurd HA.out (by simp [impl_TableOk.j2])
          | succ kj16 =>
           have H := HA.out
           clear HA
           simp only [impl_TableOk.j2] at H
           by_cases c31 : x45_16 = true
           ·subst c31
            replace H := IP H
            obtain rfl := Option.some.inj H
            go_wp2
            go_ret
            exact ⟨ER, BG⟩
           ·replace c31 := Bool.eq_false_iff.mpr c31
            subst c31
            replace H := IN H
            by_cases c32 : ((rd_T49 l0_1 x28_2).f1).toList = ([] : List UInt8)
            ·rw [if_pos c32] at H
             have c32b0 : (((rd_T49 l0_1 x28_2).f1).toList == ([] : List UInt8)) = true := beq_iff_eq.mpr c32
             have c32b1 : (((rd_T49 l0_1 x28_2).f1).toList != ([] : List UInt8)) = false := bne_eq_false_iff_eq.mpr c32
             clear c32
             have H' := Aside0.mk H
             clear H
             try go_wp2
             have n_ : _ ∧ _ ∧ _ := ⟨AsM (blk_drew BK426.out), AsM (blk_drew BK430.out), AsM (below_drew1 HB.out)⟩
             clear BK426 BK430 HB
             obtain ⟨BK426, BK430, HB⟩ := n_
             refine start_ (n := 17) (S := fun w' => w'.cell? ⟨gb430, 0, none⟩ = some (.int .i64 ((rd_T49 l0_1 x28_2).f0)) ∧ w'.cell? ⟨gb430, 1, none⟩ = some (.string ((rd_T49 l0_1 x28_2).f1))) (ds := []) #[false, false, false, false, false, false, false, false, false, false, false, false, false, false, false, false, false] (by kernel_rfl) rfl rfl ⟨(blk_cell BK430.out 0).trans rfl, (blk_cell BK430.out 1).trans rfl⟩ (fun hHeld => ?_); refine with_tabW impl_TableOk.tab8 impl_TableOk.bits8 (fun HT_ HW_ => ?_)
             generalize wc.drew = w33 at BK426 BK430 HB hHeld ⊢
             refine PU (i := 0) (N := some 46) (tf 1 16) rfl rfl HT_ ?_
             refine PT (i := 1) (N := some 47) (tf 2 15) rfl rfl HT_ HW_ hHeld ?_
             refine PU (i := 2) (N := some 48) (tf 3 14) rfl rfl HT_ ?_
             refine PU (i := 3) (N := some 49) (tf 4 13) rfl rfl HT_ ?_
             refine PN (i := 4) (N := some 50) (tf 5 12) rfl rfl HT_ ?_
             refine PN (i := 5) (N := some 51) (tf 6 11) rfl rfl HT_ ?_
             refine PN (i := 6) (N := some 52) (tf 7 10) rfl rfl HT_ ?_
             refine PN (i := 7) (N := some 53) (tf 8 9) rfl rfl HT_ ?_
             refine PN (i := 8) (N := some 54) (tf 9 8) rfl rfl HT_ ?_
             refine PN (i := 9) (N := some 55) (tf 10 7) rfl rfl HT_ ?_
             refine PN (i := 10) (N := some 56) (tf 11 6) rfl rfl HT_ ?_
             refine PN (i := 11) (N := some 57) (tf 12 5) rfl rfl HT_ ?_
             refine PN (i := 12) (N := some 58) (tf 13 4) rfl rfl HT_ ?_
             refine PN (i := 13) (N := some 59) (tf 14 3) rfl rfl HT_ ?_
             refine PN (i := 14) (N := some 60) (tf 15 2) rfl rfl HT_ ?_
             refine PN (i := 15) (N := some 61) (tf 16 1) rfl rfl HT_ ?_
             refine PU (i := 16) (N := some 62) (tf 17 0) rfl rfl HT_ ?_
             refine done_ (done_of HT_.out (by kernel_rfl)) ?_
             try go_wp2
             go_roundg kj16
             case measure => have := HJ1.out; have := HK2.out; have := HJ16.out; omega
             case rel => exact ⟨(wrap64 (x28_2 + 1)), RS, H', ⟨by have := HJ1.out; have := HK2.out; have := HJ16.out; omega⟩, ⟨BD BK426⟩, ⟨impl_TableOk.z0⟩⟩
            ·rw [if_neg c32] at H
             have c32b0 : (((rd_T49 l0_1 x28_2).f1).toList == ([] : List UInt8)) = false := beq_eq_false_iff_ne.mpr c32
             have c32b1 : (((rd_T49 l0_1 x28_2).f1).toList != ([] : List UInt8)) = true := bne_iff_ne.mpr c32
             replace H := BS H
             obtain ⟨t433, A340, H⟩ := H
             have A34 := Aside0.mk A340
             clear A340
             by_cases c35 : t433 = true
             ·subst c35
              replace H := IP H
              replace H := BS H
              obtain ⟨⟨t434, t435⟩, A360, H⟩ := H
              have A36 := Aside0.mk A360
              clear A360
              by_cases c37 : (!(((rd_T49 l0_1 x28_2).f0) == t434) || (!(((rd_T49 l0_1 x28_2).f1).toList == t435.toList))) = true
              ·rw [if_pos c37] at H
               have c37b0 : (!(((rd_T49 l0_1 x28_2).f0) == t434) || (!(((rd_T49 l0_1 x28_2).f1).toList == t435.toList))) = true := c37
               clear c37
               obtain rfl := Option.some.inj H
               try go_wp2
               have n_ : _ ∧ _ ∧ _ := ⟨AsM (blk_drew BK426.out), AsM (blk_drew BK430.out), AsM (below_drew1 HB.out)⟩
               clear BK426 BK430 HB
               obtain ⟨BK426, BK430, HB⟩ := n_
               refine start_ (n := 17) (S := fun w' => w'.cell? ⟨gb430, 0, none⟩ = some (.int .i64 ((rd_T49 l0_1 x28_2).f0)) ∧ w'.cell? ⟨gb430, 1, none⟩ = some (.string ((rd_T49 l0_1 x28_2).f1))) (ds := []) #[false, false, false, false, false, false, false, false, false, false, false, false, false, false, false, false, false] (by kernel_rfl) rfl rfl ⟨(blk_cell BK430.out 0).trans rfl, (blk_cell BK430.out 1).trans rfl⟩ (fun hHeld => ?_); refine with_tabW impl_TableOk.tab8 impl_TableOk.bits8 (fun HT_ HW_ => ?_)
               generalize wc.drew = w38 at BK426 BK430 HB hHeld ⊢
               refine PU (i := 0) (N := some 46) (tf 1 16) rfl rfl HT_ ?_
               refine PT (i := 1) (N := some 47) (tf 2 15) rfl rfl HT_ HW_ hHeld ?_
               refine PU (i := 2) (N := some 48) (tf 3 14) rfl rfl HT_ ?_
               refine PU (i := 3) (N := some 49) (tf 4 13) rfl rfl HT_ ?_
               refine PU (i := 4) (N := some 50) (tf 5 12) rfl rfl HT_ ?_
               refine PT (i := 5) (N := some 51) (tf 6 11) rfl rfl HT_ HW_ hHeld ?_
               refine PU (i := 6) (N := some 52) (tf 7 10) rfl rfl HT_ ?_
               refine one_ (i := 7) (N := some 53) (tf 8 9) rfl rfl (one_of HT_.out (by kernel_rfl)) (by decide) (fun K hK => ?_)
               refine goes_ Try.func26 (by kernel_rfl) rfl #[.agg #[.string ((rd_T49 l0_1 x28_2).f1), .string (⟨#[]⟩ : ByteArray), .int .i64 0]] (by rfl) rfl rfl AQ ?_
               with_reducible refine (impl_ItemOk.calls kj16 ((rd_T49 l0_1 x28_2).f1) (⟨#[]⟩ : ByteArray) 0 true _ A34.out).mono ?_
               rintro e w39 ⟨rfl, hb⟩
               refine ⟨_, rfl, ?_⟩
               have n_ : _ ∧ _ ∧ _ := ⟨AsM (blk_below (BD BK426) hb), AsM (blk_below (BD BK430) hb), AsM (below_step BG hb)⟩
               clear BK426 BK430 HB
               obtain ⟨BK426, BK430, HB⟩ := n_
               (try clear hb)
               (try clear hb2)
               (try clear hk)
               (try clear hi)
               refine hK.out _ _ ⟨(blk_cell BK430.out 0).trans rfl, (blk_cell BK430.out 1).trans rfl⟩ (fun hHeld => ?_)
               clear hK K
               refine NM (some 53) ?_
               refine PU (i := 8) (N := some 54) (tf 9 8) rfl rfl HT_ ?_
               refine PU (i := 9) (N := some 55) (tf 10 7) rfl rfl HT_ ?_
               refine PU (i := 11) (N := some 57) #[true, true, true, true, true, true, true, true, true, true, false, true, false, false, false, false, false] rfl rfl HT_ ?_
               refine PT (i := 10) (N := some 56) (tf 12 5) rfl rfl HT_ HW_ hHeld ?_
               refine PT (i := 12) (N := some 58) (tf 13 4) rfl rfl HT_ HW_ hHeld ?_
               refine one_ (i := 13) (N := some 59) (tf 14 3) rfl rfl (one_of HT_.out (by kernel_rfl)) (by decide) (fun K hK => ?_)
               refine goes_ Try.func27 (by kernel_rfl) rfl #[.string ((rd_T49 l0_1 x28_2).f1)] (by rfl) rfl rfl AQ ?_
               with_reducible refine (impl_entryOf.calls kj16 ((rd_T49 l0_1 x28_2).f1) t434 t435 _ A36.out).mono ?_
               rintro e w40 ⟨rfl, hb⟩
               refine ⟨_, rfl, ?_⟩
               have n_ : _ ∧ _ ∧ _ := ⟨AsM (blk_below (BD BK426) hb), AsM (blk_below (BD BK430) hb), AsM (below_step BG hb)⟩
               clear BK426 BK430 HB
               obtain ⟨BK426, BK430, HB⟩ := n_
               (try clear hb)
               (try clear hb2)
               (try clear hk)
               (try clear hi)
               refine hK.out _ _ ⟨(blk_cell BK430.out 0).trans rfl, (blk_cell BK430.out 1).trans rfl⟩ (fun hHeld => ?_)
               clear hK K
               refine NM (some 59) ?_
               refine PU (i := 14) (N := some 60) (tf 15 2) rfl rfl HT_ ?_
               refine PU (i := 15) (N := some 61) (tf 16 1) rfl rfl HT_ ?_
               refine PU (i := 16) (N := some 62) (tf 17 0) rfl rfl HT_ ?_
               refine done_ (done_of HT_.out (by kernel_rfl)) ?_
               try go_wp2
               go_ret
               exact ⟨ER, BG⟩
              ·rw [if_neg c37] at H
               have c37b0 : (!(((rd_T49 l0_1 x28_2).f0) == t434) || (!(((rd_T49 l0_1 x28_2).f1).toList == t435.toList))) = false := by simpa using c37
               clear c37
               have H' := Aside0.mk H
               clear H
               try go_wp2
               have n_ : _ ∧ _ ∧ _ := ⟨AsM (blk_drew BK426.out), AsM (blk_drew BK430.out), AsM (below_drew1 HB.out)⟩
               clear BK426 BK430 HB
               obtain ⟨BK426, BK430, HB⟩ := n_
               refine start_ (n := 17) (S := fun w' => w'.cell? ⟨gb430, 0, none⟩ = some (.int .i64 ((rd_T49 l0_1 x28_2).f0)) ∧ w'.cell? ⟨gb430, 1, none⟩ = some (.string ((rd_T49 l0_1 x28_2).f1))) (ds := []) #[false, false, false, false, false, false, false, false, false, false, false, false, false, false, false, false, false] (by kernel_rfl) rfl rfl ⟨(blk_cell BK430.out 0).trans rfl, (blk_cell BK430.out 1).trans rfl⟩ (fun hHeld => ?_); refine with_tabW impl_TableOk.tab8 impl_TableOk.bits8 (fun HT_ HW_ => ?_)
               generalize wc.drew = w41 at BK426 BK430 HB hHeld ⊢
               refine PU (i := 0) (N := some 46) (tf 1 16) rfl rfl HT_ ?_
               refine PT (i := 1) (N := some 47) (tf 2 15) rfl rfl HT_ HW_ hHeld ?_
               refine PU (i := 2) (N := some 48) (tf 3 14) rfl rfl HT_ ?_
               refine PU (i := 3) (N := some 49) (tf 4 13) rfl rfl HT_ ?_
               refine PU (i := 4) (N := some 50) (tf 5 12) rfl rfl HT_ ?_
               refine PT (i := 5) (N := some 51) (tf 6 11) rfl rfl HT_ HW_ hHeld ?_
               refine PU (i := 6) (N := some 52) (tf 7 10) rfl rfl HT_ ?_
               refine one_ (i := 7) (N := some 53) (tf 8 9) rfl rfl (one_of HT_.out (by kernel_rfl)) (by decide) (fun K hK => ?_)
               refine goes_ Try.func26 (by kernel_rfl) rfl #[.agg #[.string ((rd_T49 l0_1 x28_2).f1), .string (⟨#[]⟩ : ByteArray), .int .i64 0]] (by rfl) rfl rfl AQ ?_
               with_reducible refine (impl_ItemOk.calls kj16 ((rd_T49 l0_1 x28_2).f1) (⟨#[]⟩ : ByteArray) 0 true _ A34.out).mono ?_
               rintro e w42 ⟨rfl, hb⟩
               refine ⟨_, rfl, ?_⟩
               have n_ : _ ∧ _ ∧ _ := ⟨AsM (blk_below (BD BK426) hb), AsM (blk_below (BD BK430) hb), AsM (below_step BG hb)⟩
               clear BK426 BK430 HB
               obtain ⟨BK426, BK430, HB⟩ := n_
               (try clear hb)
               (try clear hb2)
               (try clear hk)
               (try clear hi)
               refine hK.out _ _ ⟨(blk_cell BK430.out 0).trans rfl, (blk_cell BK430.out 1).trans rfl⟩ (fun hHeld => ?_)
               clear hK K
               refine NM (some 53) ?_
               refine PU (i := 8) (N := some 54) (tf 9 8) rfl rfl HT_ ?_
               refine PU (i := 9) (N := some 55) (tf 10 7) rfl rfl HT_ ?_
               refine PU (i := 11) (N := some 57) #[true, true, true, true, true, true, true, true, true, true, false, true, false, false, false, false, false] rfl rfl HT_ ?_
               refine PT (i := 10) (N := some 56) (tf 12 5) rfl rfl HT_ HW_ hHeld ?_
               refine PT (i := 12) (N := some 58) (tf 13 4) rfl rfl HT_ HW_ hHeld ?_
               refine one_ (i := 13) (N := some 59) (tf 14 3) rfl rfl (one_of HT_.out (by kernel_rfl)) (by decide) (fun K hK => ?_)
               refine goes_ Try.func27 (by kernel_rfl) rfl #[.string ((rd_T49 l0_1 x28_2).f1)] (by rfl) rfl rfl AQ ?_
               with_reducible refine (impl_entryOf.calls kj16 ((rd_T49 l0_1 x28_2).f1) t434 t435 _ A36.out).mono ?_
               rintro e w43 ⟨rfl, hb⟩
               refine ⟨_, rfl, ?_⟩
               have n_ : _ ∧ _ ∧ _ := ⟨AsM (blk_below (BD BK426) hb), AsM (blk_below (BD BK430) hb), AsM (below_step BG hb)⟩
               clear BK426 BK430 HB
               obtain ⟨BK426, BK430, HB⟩ := n_
               (try clear hb)
               (try clear hb2)
               (try clear hk)
               (try clear hi)
               refine hK.out _ _ ⟨(blk_cell BK430.out 0).trans rfl, (blk_cell BK430.out 1).trans rfl⟩ (fun hHeld => ?_)
               clear hK K
               refine NM (some 59) ?_
               refine PU (i := 14) (N := some 60) (tf 15 2) rfl rfl HT_ ?_
               refine PU (i := 15) (N := some 61) (tf 16 1) rfl rfl HT_ ?_
               refine PU (i := 16) (N := some 62) (tf 17 0) rfl rfl HT_ ?_
               refine done_ (done_of HT_.out (by kernel_rfl)) ?_
               try go_wp2
               go_roundg kj16
               case measure => have := HJ1.out; have := HK2.out; have := HJ16.out; omega
               case rel => exact ⟨(wrap64 (x28_2 + 1)), RS, H', ⟨by have := HJ1.out; have := HK2.out; have := HJ16.out; omega⟩, ⟨BD BK426⟩, ⟨impl_TableOk.z0⟩⟩
             ·replace c35 := Bool.eq_false_iff.mpr c35
              subst c35
              replace H := IN H
              obtain rfl := Option.some.inj H
              try go_wp2
              have n_ : _ ∧ _ ∧ _ := ⟨AsM (blk_drew BK426.out), AsM (blk_drew BK430.out), AsM (below_drew1 HB.out)⟩
              clear BK426 BK430 HB
              obtain ⟨BK426, BK430, HB⟩ := n_
              refine start_ (n := 17) (S := fun w' => w'.cell? ⟨gb430, 0, none⟩ = some (.int .i64 ((rd_T49 l0_1 x28_2).f0)) ∧ w'.cell? ⟨gb430, 1, none⟩ = some (.string ((rd_T49 l0_1 x28_2).f1))) (ds := []) #[false, false, false, false, false, false, false, false, false, false, false, false, false, false, false, false, false] (by kernel_rfl) rfl rfl ⟨(blk_cell BK430.out 0).trans rfl, (blk_cell BK430.out 1).trans rfl⟩ (fun hHeld => ?_); refine with_tabW impl_TableOk.tab8 impl_TableOk.bits8 (fun HT_ HW_ => ?_)
              generalize wc.drew = w44 at BK426 BK430 HB hHeld ⊢
              refine PU (i := 0) (N := some 46) (tf 1 16) rfl rfl HT_ ?_
              refine PT (i := 1) (N := some 47) (tf 2 15) rfl rfl HT_ HW_ hHeld ?_
              refine PU (i := 2) (N := some 48) (tf 3 14) rfl rfl HT_ ?_
              refine PU (i := 3) (N := some 49) (tf 4 13) rfl rfl HT_ ?_
              refine PU (i := 4) (N := some 50) (tf 5 12) rfl rfl HT_ ?_
              refine PT (i := 5) (N := some 51) (tf 6 11) rfl rfl HT_ HW_ hHeld ?_
              refine PU (i := 6) (N := some 52) (tf 7 10) rfl rfl HT_ ?_
              refine one_ (i := 7) (N := some 53) (tf 8 9) rfl rfl (one_of HT_.out (by kernel_rfl)) (by decide) (fun K hK => ?_)
              refine goes_ Try.func26 (by kernel_rfl) rfl #[.agg #[.string ((rd_T49 l0_1 x28_2).f1), .string (⟨#[]⟩ : ByteArray), .int .i64 0]] (by rfl) rfl rfl AQ ?_
              with_reducible refine (impl_ItemOk.calls kj16 ((rd_T49 l0_1 x28_2).f1) (⟨#[]⟩ : ByteArray) 0 false _ A34.out).mono ?_
              rintro e w45 ⟨rfl, hb⟩
              refine ⟨_, rfl, ?_⟩
              have n_ : _ ∧ _ ∧ _ := ⟨AsM (blk_below (BD BK426) hb), AsM (blk_below (BD BK430) hb), AsM (below_step BG hb)⟩
              clear BK426 BK430 HB
              obtain ⟨BK426, BK430, HB⟩ := n_
              (try clear hb)
              (try clear hb2)
              (try clear hk)
              (try clear hi)
              refine hK.out _ _ ⟨(blk_cell BK430.out 0).trans rfl, (blk_cell BK430.out 1).trans rfl⟩ (fun hHeld => ?_)
              clear hK K
              refine NM (some 53) ?_
              refine PU (i := 8) (N := some 54) (tf 9 8) rfl rfl HT_ ?_
              refine PU (i := 9) (N := some 55) (tf 10 7) rfl rfl HT_ ?_
              refine PN (i := 10) (N := some 56) (tf 11 6) rfl rfl HT_ ?_
              refine PN (i := 11) (N := some 57) (tf 12 5) rfl rfl HT_ ?_
              refine PN (i := 12) (N := some 58) (tf 13 4) rfl rfl HT_ ?_
              refine PN (i := 13) (N := some 59) (tf 14 3) rfl rfl HT_ ?_
              refine PN (i := 14) (N := some 60) (tf 15 2) rfl rfl HT_ ?_
              refine PU (i := 15) (N := some 61) (tf 16 1) rfl rfl HT_ ?_
              refine PU (i := 16) (N := some 62) (tf 17 0) rfl rfl HT_ ?_
              refine done_ (done_of HT_.out (by kernel_rfl)) ?_
              try go_wp2
              go_ret
              exact ⟨ER, BG⟩
        ·rw [if_neg c16] at H
         exact absurd H (by simp)
       ·rw [if_neg c15] at H
        exact absurd H (by simp)
      ·rw [if_neg c14] at H
       have c14b0 : decide (x28_2 < (l0_1.length : Int)) = false := decide_eq_false c14
       clear c14
       have H' := Aside0.mk H
       clear H
       obtain ⟨hcz46_0, hcz46_1, hfz46_0, hfz46_1⟩ := bk2 BK426.out
       go_wp2
       go_loopg [5, 66] k2 (fun kq v5 v66 w' => ∃ (x5_3 : Int) (x66_3 : Int), v5 = .int .i64 x5_3 ∧ v66 = .int .i64 x66_3 ∧ Aside0 (impl_TableOk.l1 kq x5_3 a0_0 x66_3 a0_0 l0_1 = some r) ∧ Aside0 (kq ≤ k2) ∧ Aside0 (w'.heap[gb426]? = some (.cells #[.int .i64 a0_0, (.slice A0_1 l0_1.length c0_1)] 25 (0, 0))) ∧ Aside0 (Below w.heap.size w w'))
       case atStart => exact ⟨(0), (0), RS, RS, H', ⟨Nat.le_refl _⟩, ⟨BD BK426⟩, ⟨impl_TableOk.z1⟩⟩
       case round =>
        clear H'
        try clear c1
        try clear c2
        try clear p2
        try clear c3
        try clear p6
        try clear c14
        try clear c14b0
        try clear c15
        try clear c16
        try clear c26
        try clear c27
        try clear c32
        try clear c32b0
        try clear c32b1
        try clear c35
        try clear c37
        try clear c37b0
        try clear hcz46_0
        try clear hcz46_1
        try clear hfz46_0
        try clear hfz46_1
        obtain ⟨x5_3, x66_3, rfl, rfl, HA, HK3, BK426, HB⟩ := hrel
        cases gk with
        | zero => exact absurd HA.out (by simp [impl_TableOk.l1])
        | succ k3 =>
         have H := HA.out
         clear HA
         simp only [impl_TableOk.l1] at H
         by_cases c47 : x66_3 < a0_0
         ·rw [if_pos c47] at H
          have c47b0 : decide (x66_3 < a0_0) = true := decide_eq_true c47
          clear c47
          replace H := BS H
          obtain ⟨t438, A480, H⟩ := H
          have A48 := Aside0.mk A480
          clear A480
          by_cases c49 : t438 = true
          ·subst c49
           replace H := IP H
           replace H := BS H
           obtain ⟨t439, A500, H⟩ := H
           have A50 := Aside0.mk A500
           clear A500
           replace H := BS H
           obtain ⟨t440, A510, H⟩ := H
           have A51 := Aside0.mk A510
           clear A510
           by_cases c52 : t440 = true
           ·subst c52
            replace H := IP H
            have H' := Aside0.mk H
            clear H
            obtain ⟨hcz53_0, hcz53_1, hfz53_0, hfz53_1⟩ := bk2 BK426.out
            try go_wp2_with (first | ((with_reducible refine gate_callee (f := 28) rfl ?_); refine goesL_ (some 71) rfl rfl Try.func28 (by kernel_rfl) rfl #[.agg #[.int .i64 a0_0, .slice A0_1 l0_1.length c0_1], .int .i64 x66_3] rfl AQ ?_; (with_reducible refine (impl_Table_isOpen.calls k3 a0_0 _ _ l0_1 x66_3 true _ ?side1 ?side2 A48.out).mono ?_); (case side1 => exact SC HR0_1); (case side2 => exact HC0_1.out); rintro e w54 ⟨rfl, hb⟩; refine ⟨_, rfl, ?_⟩; have n_ : _ ∧ _ := ⟨AsM (blk_below (BD BK426) hb), AsM (below_step BG hb)⟩; clear BK426 HB; obtain ⟨BK426, HB⟩ := n_; (try clear hb); (try clear hb2); (try clear hk); (try clear hi)))
            have n_ : _ ∧ _ := ⟨AsM (blk_drew BK426.out), AsM (below_drew1 HB.out)⟩
            clear BK426 HB
            obtain ⟨BK426, HB⟩ := n_
            refine start_ (n := 5) (S := fun w' => w'.cell? ⟨gb426, 0, none⟩ = some (.int .i64 a0_0) ∧ w'.cell? ⟨gb426, 1, none⟩ = some (.slice A0_1 l0_1.length c0_1)) (ds := []) #[false, false, false, false, false] (by kernel_rfl) rfl rfl ⟨(blk_cell BK426.out 0).trans rfl, (blk_cell BK426.out 1).trans rfl⟩ (fun hHeld => ?_)
            generalize w54.drew = w55 at BK426 HB hHeld ⊢
            refine PV (i := 1) (N := some 75) #[false, true, false, false, false] rfl rfl ?_
            refine PK (i := 0) (N := some 74) (tf 2 3) rfl rfl hHeld ?_
            refine one_ (i := 2) (N := some 76) (tf 3 2) rfl rfl (by kernel_rfl) (by decide) (fun K hK => ?_)
            refine goes_ Try.func29 (by kernel_rfl) rfl #[.int .i64 x66_3] (by rfl) rfl rfl AQ ?_
            with_reducible refine (impl_Parent.calls k3 x66_3 t439 _ A50.out).mono ?_
            rintro e w' ⟨rfl, ⟨nd, rfl⟩⟩
            refine ⟨_, rfl, ?_⟩
            refine hK.out _ _ ⟨(blk_cell BK426.out 0).trans rfl, (blk_cell BK426.out 1).trans rfl⟩ (fun hHeld => ?_)
            clear hK K
            refine NM (some 76) ?_
            refine one_ (i := 3) (N := some 77) (tf 4 1) rfl rfl (by kernel_rfl) (by decide) (fun K hK => ?_)
            refine goes_ Try.func28 (by kernel_rfl) rfl #[.agg #[.int .i64 a0_0, .slice A0_1 l0_1.length c0_1], .int .i64 t439] (by rfl) rfl rfl AQ ?_
            with_reducible refine (impl_Table_isOpen.calls k3 a0_0 _ _ l0_1 t439 true _ ?side1 ?side2 A51.out).mono ?_
            (case side1 => repeat (first | exact (Kd.C_below HR0_1.out BG) | (with_reducible refine Kd.C_alloc ?_ _) | (with_reducible refine Kd.C_drewN ?_ _) | (with_reducible refine Kd.C_drew ?_)))
            (case side2 => exact HC0_1.out)
            rintro e w56 ⟨rfl, hb⟩
            refine ⟨_, rfl, ?_⟩
            have n_ : _ ∧ _ := ⟨AsM (blk_below (BD BK426) hb), AsM (below_step BG hb)⟩
            clear BK426 HB
            obtain ⟨BK426, HB⟩ := n_
            (try clear hb)
            (try clear hb2)
            (try clear hk)
            (try clear hi)
            refine hK.out _ _ ⟨(blk_cell BK426.out 0).trans rfl, (blk_cell BK426.out 1).trans rfl⟩ (fun hHeld => ?_)
            clear hK K
            refine NM (some 77) ?_
            refine PV (i := 4) (N := some 78) (tf 5 0) rfl rfl ?_
            refine done_ (by kernel_rfl) ?_
            try go_wp2
            go_roundg k3
            case measure => have := HJ1.out; have := HK2.out; have := HK3.out; omega
            case rel => exact ⟨(wrap64 (x5_3 + 1)), (wrap64 (x66_3 + 1)), RS, RS, H', ⟨by have := HJ1.out; have := HK2.out; have := HK3.out; omega⟩, ⟨BD BK426⟩, ⟨impl_TableOk.z1⟩⟩
           ·replace c52 := Bool.eq_false_iff.mpr c52
            subst c52
            replace H := IN H
            obtain rfl := Option.some.inj H
            obtain ⟨hcz57_0, hcz57_1, hfz57_0, hfz57_1⟩ := bk2 BK426.out
            try go_wp2_with (first | ((with_reducible refine gate_callee (f := 28) rfl ?_); refine goesL_ (some 71) rfl rfl Try.func28 (by kernel_rfl) rfl #[.agg #[.int .i64 a0_0, .slice A0_1 l0_1.length c0_1], .int .i64 x66_3] rfl AQ ?_; (with_reducible refine (impl_Table_isOpen.calls k3 a0_0 _ _ l0_1 x66_3 true _ ?side1 ?side2 A48.out).mono ?_); (case side1 => exact SC HR0_1); (case side2 => exact HC0_1.out); rintro e w58 ⟨rfl, hb⟩; refine ⟨_, rfl, ?_⟩; have n_ : _ ∧ _ := ⟨AsM (blk_below (BD BK426) hb), AsM (below_step BG hb)⟩; clear BK426 HB; obtain ⟨BK426, HB⟩ := n_; (try clear hb); (try clear hb2); (try clear hk); (try clear hi)))
            have n_ : _ ∧ _ := ⟨AsM (blk_drew BK426.out), AsM (below_drew1 HB.out)⟩
            clear BK426 HB
            obtain ⟨BK426, HB⟩ := n_
            refine start_ (n := 5) (S := fun w' => w'.cell? ⟨gb426, 0, none⟩ = some (.int .i64 a0_0) ∧ w'.cell? ⟨gb426, 1, none⟩ = some (.slice A0_1 l0_1.length c0_1)) (ds := []) #[false, false, false, false, false] (by kernel_rfl) rfl rfl ⟨(blk_cell BK426.out 0).trans rfl, (blk_cell BK426.out 1).trans rfl⟩ (fun hHeld => ?_)
            generalize w58.drew = w59 at BK426 HB hHeld ⊢
            refine PV (i := 1) (N := some 75) #[false, true, false, false, false] rfl rfl ?_
            refine PK (i := 0) (N := some 74) (tf 2 3) rfl rfl hHeld ?_
            refine one_ (i := 2) (N := some 76) (tf 3 2) rfl rfl (by kernel_rfl) (by decide) (fun K hK => ?_)
            refine goes_ Try.func29 (by kernel_rfl) rfl #[.int .i64 x66_3] (by rfl) rfl rfl AQ ?_
            with_reducible refine (impl_Parent.calls k3 x66_3 t439 _ A50.out).mono ?_
            rintro e w' ⟨rfl, ⟨nd, rfl⟩⟩
            refine ⟨_, rfl, ?_⟩
            refine hK.out _ _ ⟨(blk_cell BK426.out 0).trans rfl, (blk_cell BK426.out 1).trans rfl⟩ (fun hHeld => ?_)
            clear hK K
            refine NM (some 76) ?_
            refine one_ (i := 3) (N := some 77) (tf 4 1) rfl rfl (by kernel_rfl) (by decide) (fun K hK => ?_)
            refine goes_ Try.func28 (by kernel_rfl) rfl #[.agg #[.int .i64 a0_0, .slice A0_1 l0_1.length c0_1], .int .i64 t439] (by rfl) rfl rfl AQ ?_
            with_reducible refine (impl_Table_isOpen.calls k3 a0_0 _ _ l0_1 t439 false _ ?side1 ?side2 A51.out).mono ?_
            (case side1 => repeat (first | exact (Kd.C_below HR0_1.out BG) | (with_reducible refine Kd.C_alloc ?_ _) | (with_reducible refine Kd.C_drewN ?_ _) | (with_reducible refine Kd.C_drew ?_)))
            (case side2 => exact HC0_1.out)
            rintro e w60 ⟨rfl, hb⟩
            refine ⟨_, rfl, ?_⟩
            have n_ : _ ∧ _ := ⟨AsM (blk_below (BD BK426) hb), AsM (below_step BG hb)⟩
            clear BK426 HB
            obtain ⟨BK426, HB⟩ := n_
            (try clear hb)
            (try clear hb2)
            (try clear hk)
            (try clear hi)
            refine hK.out _ _ ⟨(blk_cell BK426.out 0).trans rfl, (blk_cell BK426.out 1).trans rfl⟩ (fun hHeld => ?_)
            clear hK K
            refine NM (some 77) ?_
            refine PV (i := 4) (N := some 78) (tf 5 0) rfl rfl ?_
            refine done_ (by kernel_rfl) ?_
            try go_wp2
            go_ret
            exact ⟨ER, BG⟩
          ·replace c49 := Bool.eq_false_iff.mpr c49
           subst c49
           replace H := IN H
           have H' := Aside0.mk H
           clear H
           obtain ⟨hcz61_0, hcz61_1, hfz61_0, hfz61_1⟩ := bk2 BK426.out
           go_wp2_with (first | ((with_reducible refine gate_callee (f := 28) rfl ?_); refine goesL_ (some 71) rfl rfl Try.func28 (by kernel_rfl) rfl #[.agg #[.int .i64 a0_0, .slice A0_1 l0_1.length c0_1], .int .i64 x66_3] rfl AQ ?_; (with_reducible refine (impl_Table_isOpen.calls k3 a0_0 _ _ l0_1 x66_3 false _ ?side1 ?side2 A48.out).mono ?_); (case side1 => exact SC HR0_1); (case side2 => exact HC0_1.out); rintro e w62 ⟨rfl, hb⟩; refine ⟨_, rfl, ?_⟩; have n_ : _ ∧ _ := ⟨AsM (blk_below (BD BK426) hb), AsM (below_step BG hb)⟩; clear BK426 HB; obtain ⟨BK426, HB⟩ := n_; (try clear hb); (try clear hb2); (try clear hk); (try clear hi)))
           go_roundg k3
           case measure => have := HJ1.out; have := HK2.out; have := HK3.out; omega
           case rel => exact ⟨(x5_3), (wrap64 (x66_3 + 1)), RS, RS, H', ⟨by have := HJ1.out; have := HK2.out; have := HK3.out; omega⟩, ⟨BD BK426⟩, ⟨impl_TableOk.z1⟩⟩
         ·rw [if_neg c47] at H
          have c47b0 : decide (x66_3 < a0_0) = false := decide_eq_false c47
          clear c47
          replace H := BS H
          obtain ⟨t436, A630, H⟩ := H
          have A63 := Aside0.mk A630
          clear A630
          by_cases c64 : t436 = true
          ·subst c64
           replace H := IP H
           replace H := BS H
           obtain ⟨t437, A650, H⟩ := H
           have A65 := Aside0.mk A650
           clear A650
           obtain rfl := Option.some.inj H
           try go_wp2
           have n_ : _ ∧ _ := ⟨AsM (blk_drew BK426.out), AsM (below_drew1 HB.out)⟩
           clear BK426 HB
           obtain ⟨BK426, HB⟩ := n_
           refine start_ (n := 13) (S := fun w' => w'.cell? ⟨gb426, 0, none⟩ = some (.int .i64 a0_0) ∧ w'.cell? ⟨gb426, 1, none⟩ = some (.slice A0_1 l0_1.length c0_1)) (ds := []) #[false, false, false, false, false, false, false, false, false, false, false, false, false] (by kernel_rfl) rfl rfl ⟨(blk_cell BK426.out 0).trans rfl, (blk_cell BK426.out 1).trans rfl⟩ (fun hHeld => ?_); refine with_tabW impl_TableOk.tab20 impl_TableOk.bits20 (fun HT_ HW_ => ?_)
           generalize wr.drew = w66 at BK426 HB hHeld ⊢
           refine PT (i := 0) (N := some 80) (tf 1 12) rfl rfl HT_ HW_ hHeld ?_
           refine one_ (i := 1) (N := some 81) (tf 2 11) rfl rfl (one_of HT_.out (by kernel_rfl)) (by decide) (fun K hK => ?_)
           refine goes_ Try.func28 (by kernel_rfl) rfl #[.agg #[.int .i64 a0_0, .slice A0_1 l0_1.length c0_1], .int .i64 0] (by rfl) rfl rfl AQ ?_
           with_reducible refine (impl_Table_isOpen.calls k3 a0_0 _ _ l0_1 0 true _ ?side1 ?side2 A63.out).mono ?_
           (case side1 => exact SC HR0_1)
           (case side2 => exact HC0_1.out)
           rintro e w67 ⟨rfl, hb⟩
           refine ⟨_, rfl, ?_⟩
           have n_ : _ ∧ _ := ⟨AsM (blk_below (BD BK426) hb), AsM (below_step BG hb)⟩
           clear BK426 HB
           obtain ⟨BK426, HB⟩ := n_
           (try clear hb)
           (try clear hb2)
           (try clear hk)
           (try clear hi)
           refine hK.out _ _ ⟨(blk_cell BK426.out 0).trans rfl, (blk_cell BK426.out 1).trans rfl⟩ (fun hHeld => ?_)
           clear hK K
           refine NM (some 81) ?_
           refine PU (i := 2) (N := some 82) (tf 3 10) rfl rfl HT_ ?_
           refine PU (i := 3) (N := some 83) (tf 4 9) rfl rfl HT_ ?_
           refine PU (i := 4) (N := some 84) (tf 5 8) rfl rfl HT_ ?_
           refine PT (i := 5) (N := some 85) (tf 6 7) rfl rfl HT_ HW_ hHeld ?_
           refine PU (i := 6) (N := some 86) (tf 7 6) rfl rfl HT_ ?_
           refine PT (i := 7) (N := some 87) (tf 8 5) rfl rfl HT_ HW_ hHeld ?_
           refine one_ (i := 8) (N := some 88) (tf 9 4) rfl rfl (one_of HT_.out (by kernel_rfl)) (by decide) (fun K hK => ?_)
           refine goes_ Try.func24 (by kernel_rfl) rfl #[.agg #[.int .i64 a0_0, .slice A0_1 l0_1.length c0_1]] (by rfl) rfl rfl AQ ?_
           with_reducible refine (impl_Table_keysIn.calls k3 a0_0 _ _ l0_1 t437 _ ?side1 ?side2 A65.out).mono ?_
           (case side1 => exact SC HR0_1)
           (case side2 => exact HC0_1.out)
           rintro e w68 ⟨rfl, hb⟩
           refine ⟨_, rfl, ?_⟩
           have n_ : _ ∧ _ := ⟨AsM (blk_below (BD BK426) hb), AsM (below_step BG hb)⟩
           clear BK426 HB
           obtain ⟨BK426, HB⟩ := n_
           (try clear hb)
           (try clear hb2)
           (try clear hk)
           (try clear hi)
           refine hK.out _ _ ⟨(blk_cell BK426.out 0).trans rfl, (blk_cell BK426.out 1).trans rfl⟩ (fun hHeld => ?_)
           clear hK K
           refine NM (some 88) ?_
           refine PU (i := 9) (N := some 89) (tf 10 3) rfl rfl HT_ ?_
           refine PU (i := 10) (N := some 90) (tf 11 2) rfl rfl HT_ ?_
           refine PU (i := 11) (N := some 91) (tf 12 1) rfl rfl HT_ ?_
           refine PU (i := 12) (N := some 2) (tf 13 0) rfl rfl HT_ ?_
           refine done_ (done_of HT_.out (by kernel_rfl)) ?_
           try go_wp2
           go_ret
           exact ⟨ER, BG⟩
          ·replace c64 := Bool.eq_false_iff.mpr c64
           subst c64
           replace H := IN H
           obtain rfl := Option.some.inj H
           try go_wp2
           have n_ : _ ∧ _ := ⟨AsM (blk_drew BK426.out), AsM (below_drew1 HB.out)⟩
           clear BK426 HB
           obtain ⟨BK426, HB⟩ := n_
           refine start_ (n := 13) (S := fun w' => w'.cell? ⟨gb426, 0, none⟩ = some (.int .i64 a0_0) ∧ w'.cell? ⟨gb426, 1, none⟩ = some (.slice A0_1 l0_1.length c0_1)) (ds := []) #[false, false, false, false, false, false, false, false, false, false, false, false, false] (by kernel_rfl) rfl rfl ⟨(blk_cell BK426.out 0).trans rfl, (blk_cell BK426.out 1).trans rfl⟩ (fun hHeld => ?_); refine with_tabW impl_TableOk.tab20 impl_TableOk.bits20 (fun HT_ HW_ => ?_)
           generalize wr.drew = w69 at BK426 HB hHeld ⊢
           refine PT (i := 0) (N := some 80) (tf 1 12) rfl rfl HT_ HW_ hHeld ?_
           refine one_ (i := 1) (N := some 81) (tf 2 11) rfl rfl (one_of HT_.out (by kernel_rfl)) (by decide) (fun K hK => ?_)
           refine goes_ Try.func28 (by kernel_rfl) rfl #[.agg #[.int .i64 a0_0, .slice A0_1 l0_1.length c0_1], .int .i64 0] (by rfl) rfl rfl AQ ?_
           with_reducible refine (impl_Table_isOpen.calls k3 a0_0 _ _ l0_1 0 false _ ?side1 ?side2 A63.out).mono ?_
           (case side1 => exact SC HR0_1)
           (case side2 => exact HC0_1.out)
           rintro e w70 ⟨rfl, hb⟩
           refine ⟨_, rfl, ?_⟩
           have n_ : _ ∧ _ := ⟨AsM (blk_below (BD BK426) hb), AsM (below_step BG hb)⟩
           clear BK426 HB
           obtain ⟨BK426, HB⟩ := n_
           (try clear hb)
           (try clear hb2)
           (try clear hk)
           (try clear hi)
           refine hK.out _ _ ⟨(blk_cell BK426.out 0).trans rfl, (blk_cell BK426.out 1).trans rfl⟩ (fun hHeld => ?_)
           clear hK K
           refine NM (some 81) ?_
           refine PU (i := 2) (N := some 82) (tf 3 10) rfl rfl HT_ ?_
           refine PN (i := 3) (N := some 83) (tf 4 9) rfl rfl HT_ ?_
           refine PN (i := 4) (N := some 84) (tf 5 8) rfl rfl HT_ ?_
           refine PN (i := 5) (N := some 85) (tf 6 7) rfl rfl HT_ ?_
           refine PN (i := 6) (N := some 86) (tf 7 6) rfl rfl HT_ ?_
           refine PN (i := 7) (N := some 87) (tf 8 5) rfl rfl HT_ ?_
           refine PN (i := 8) (N := some 88) (tf 9 4) rfl rfl HT_ ?_
           refine PN (i := 9) (N := some 89) (tf 10 3) rfl rfl HT_ ?_
           refine PN (i := 10) (N := some 90) (tf 11 2) rfl rfl HT_ ?_
           refine PU (i := 11) (N := some 91) (tf 12 1) rfl rfl HT_ ?_
           refine PU (i := 12) (N := some 2) (tf 13 0) rfl rfl HT_ ?_
           refine done_ (done_of HT_.out (by kernel_rfl)) ?_
           try go_wp2
           go_ret
           exact ⟨ER, BG⟩
end Go.Proofs.Ytbjlldjkkdiblaa.G

namespace Go.Proofs.Ytbjlldjkkdiblaa.G
open Go.RowKit Go.Proofs.YtbjlldjkkdiblaaW.PrintWords Go.Proofs.YtbjlldjkkdiblaaW.PrintLast Go.Proofs.YtbjlldjkkdiblaaW.PrintMore Go.Proofs.Ytbjlldjkkdiblaa.Sh
attribute [local go_sem] max2_int min2_int max_two min_two max_three min_three max_four min_four
set_option linter.unusedVariables false
set_option linter.unusedSimpArgs false
def impl_Keys.l0 : Nat → List ByteArray → List (S49) → Int → Int → Option (List ByteArray)
 | 0, _, _, _, _ => none
 | k + 1, x3, x12, x13, x14 => if x14 < x13 then (if 0 ≤ x14 then (if x14 < (x12.length : Int) then (if ((rd_T49 x12 x14).f1).toList = ([] : List UInt8) then (impl_Keys.l0 k x3 x12 x13 (wrap64 (x14 + 1))) else (if x3.length < 8796093022208 then (impl_Keys.l0 k (x3 ++ [(rd_T49 x12 x14).f1]) x12 x13 (wrap64 (x14 + 1))) else (none))) else (none)) else (none)) else (some x3)
def impl_Keys.f (k : Nat) (a0_0 : Int) (l0_1 : List (S49)) : Option (List ByteArray) := (some (([] : List ByteArray) : List ByteArray)).bind fun y442 => ((impl_TableOk.f k a0_0 l0_1).bind fun t445 => (if t445 = true then (impl_Keys.l0 k y442 l0_1 (l0_1.length : Int) 0) else (some y442)))
theorem impl_Keys.mono_l : ∀ k, (∀ y0 y1 y2 y3, LeO (impl_Keys.l0 k y0 y1 y2 y3) (impl_Keys.l0 (k + 1) y0 y1 y2 y3))
 | 0 => fun _ _ _ _ r h => by simp [impl_Keys.l0] at h
 | k + 1 => by
  have ih0 := impl_Keys.mono_l k
  ·intro y0 y1 y2 y3
   unfold impl_Keys.l0
   repeat' first | (with_reducible first | exact ih0 _ _ _ _ | exact impl_TableOk.mono _ _ _ | exact LeO.refl _ | exact LeO.none _ | refine LeO.ite ?_ ?_ | refine LeO.bind ?_ (fun _ => ?_)) | exact ih0 _ _ _ _ | exact impl_TableOk.mono _ _ _ | exact LeO.none _ | refine LeO.ite ?_ ?_ | refine LeO.bind ?_ (fun _ => ?_)
theorem impl_Keys.mono : ∀ a0 a1 k, LeO (impl_Keys.f k a0 a1) (impl_Keys.f (k + 1) a0 a1) := by
 intro a0 a1 k
 have ih0 := impl_Keys.mono_l k
 unfold impl_Keys.f
 repeat' first | (with_reducible first | exact ih0 _ _ _ _ | exact impl_TableOk.mono _ _ _ | exact LeO.refl _ | exact LeO.none _ | refine LeO.ite ?_ ?_ | refine LeO.bind ?_ (fun _ => ?_)) | exact ih0 _ _ _ _ | exact impl_TableOk.mono _ _ _ | exact LeO.none _ | refine LeO.ite ?_ ?_ | refine LeO.bind ?_ (fun _ => ?_)
set_option maxHeartbeats 8000000 in
set_option maxRecDepth 100000 in
theorem impl_Keys.calls (k : Nat) (a0_0 : Int) (A0_1 : Option Addr) (c0_1 : Nat) (l0_1 : List (S49)) (r : List ByteArray) (w : World) (hr0_1 : Kd.C k49 w A0_1 l0_1.length l0_1) (hc0_1 : l0_1.length ≤ c0_1) (h : impl_Keys.f k a0_0 l0_1 = some r) :
  Calls Try.prog 6 #[.agg #[.int .i64 a0_0, .slice A0_1 l0_1.length c0_1]] w fun e w' => ∃ v0_ : Value, e = .returned (v0_) ∧ Kd.R Kd.string 9 w' w.heap.size (fun _ => True) v0_ r ∧ Below w.heap.size w w' := by
 have hu25 := Try.underlying25
 have hu49 := Try.underlying49
 have HR0_1 := Aside0.mk hr0_1
 have HC0_1 := Aside0.mk hc0_1
 clear hr0_1 hc0_1
 have HB := Aside0.mk (Below.refl w.heap.size w)
 have H : ((some (([] : List ByteArray) : List ByteArray)).bind fun y442 => ((impl_TableOk.f k a0_0 l0_1).bind fun t445 => (if t445 = true then (impl_Keys.l0 k y442 l0_1 (l0_1.length : Int) 0) else (some y442)))) = some r := h
 clear h
 obtain ⟨y442, hy442⟩ : ∃ y_ : List ByteArray, y_ = (([] : List ByteArray)) := ⟨_, rfl⟩
 replace H : ((impl_TableOk.f k a0_0 l0_1).bind fun t445 => (if t445 = true then (impl_Keys.l0 k y442 l0_1 (l0_1.length : Int) 0) else (some y442))) = some r := by first | (rw [hy442]; with_reducible exact H) | (have H2_ := (Option.bind_some _ _).symm.trans H; rw [hy442]; with_reducible exact H2_) | (have H2_ := (Option.bind_some _ _).symm.trans H; with_reducible exact H2_) | with_reducible exact H | (rw [hy442]; exact H) | exact H
 have Ny442 := Aside0.mk hy442
 clear hy442
 replace H := BS H
 obtain ⟨t445, A20, H⟩ := H
 have A2 := Aside0.mk A20
 clear A20
 by_cases c3 : t445 = true
 ·subst c3
  replace H := IP H
  have H' := Aside0.mk H
  clear H
  go_enter Try.func6, Try.ntmps6
  go_wp2_with (first | ((with_reducible refine gate_dst (N := 1) rfl ?_); refine box_event ?hg (N := 1) ?hd (cs := #[.int .i64 a0_0, .slice A0_1 l0_1.length c0_1]) (t := 25) ?hr ?_; (case hd => rfl); (case hg => rfl); (case hr => first | (go_simp; done) | (go_simp; rfl)); intro gb441 hg w4 hbox hb; have n_ : _ ∧ _ ∧ _ ∧ _ := ⟨AsM (below_step BL hb), AsM (hbox), AsM ((GL : w.heap.size ≤ gb441)), AsM ((GL : w.heap.size ≤ gb441))⟩; clear HB; obtain ⟨HB, BK441, GW441, GE441⟩ := n_; clear hb hbox hg) | ((with_reducible refine gate_dst (N := 6) rfl ?_); refine Kd.R_lit Kd.string _ 9 ?hg (N := 6) ?hd (xs := ([] : List ByteArray)) (inner := []) (ok := fun _ => True) (okp := fun _ => True) ?hr ?hp (fun _ hk => hk) trivial (Below.refl _ _) (Nat.le_refl _) (by simp) ?_; (case hd => rfl); (case hg => rfl); (case hr => first | (go_simp; done) | (go_simp; rfl)); (case hp => exact (Reps.none _ _)); intro v443 w5 ho6 hb hg_ hnew_; clear hg_ hnew_; (first | rw [← Ny442.out] at ho6 | (simp only [Int.reduceToNat] at ho6; rw [← Ny442.out] at ho6)); have n_ : _ ∧ _ ∧ _ := ⟨AsM (Kd.R_lower ho6 (below_size BG)), AsM (blk_below (BD BK441) hb), AsM (below_step BG hb)⟩; clear BK441 HB; obtain ⟨HO444, BK441, HB⟩ := n_; clear hb ho6; obtain ⟨hcz7_0, hcz7_1, hfz7_0, hfz7_1⟩ := bk2 BK441.out) | ((with_reducible refine gate_callee (f := 7) rfl ?_); refine goesL_ (some 8) rfl rfl Try.func7 (by kernel_rfl) rfl #[.agg #[.int .i64 a0_0, .slice A0_1 l0_1.length c0_1]] rfl AQ ?_; (with_reducible refine (impl_TableOk.calls k a0_0 _ _ l0_1 true _ ?side1 ?side2 A2.out).mono ?_); (case side1 => exact SC HR0_1); (case side2 => exact HC0_1.out); rintro e w8 ⟨rfl, hb⟩; refine ⟨_, rfl, ?_⟩; have n_ : _ ∧ _ ∧ _ := ⟨AsM (Kd.R_below (RD HO444) hb), AsM (blk_below (BD BK441) hb), AsM (below_step BG hb)⟩; clear HO444 BK441 HB; obtain ⟨HO444, BK441, HB⟩ := n_; (try clear hb); (try clear hb2); (try clear hk); (try clear hi); obtain ⟨hcz9_0, hcz9_1, hfz9_0, hfz9_1⟩ := bk2 BK441.out))
  go_loopg [3, 14] k (fun kq v3 v14 w' => ∃ (x3_1 : List ByteArray) (x14_1 : Int), v14 = .int .i64 x14_1 ∧ Aside0 (impl_Keys.l0 kq x3_1 l0_1 (l0_1.length : Int) x14_1 = some r) ∧ Aside0 (kq ≤ k) ∧ Aside0 (Kd.R Kd.string 9 w' w.heap.size (fun _ => True) v3 x3_1) ∧ Aside0 (w'.heap[gb441]? = some (.cells #[.int .i64 a0_0, (.slice A0_1 l0_1.length c0_1)] 25 (0, 0))) ∧ Aside0 (Below w.heap.size w w'))
  case atStart => exact ⟨(y442), (0), RS, H', ⟨Nat.le_refl _⟩, ⟨RD HO444⟩, ⟨BD BK441⟩, ⟨by repeat (first | (with_reducible first | exact HB.out | apply below_alloc | apply pw_below_drewN | apply below_drew1 | refine below_set ?_ GE441.out) | exact HB.out)⟩⟩
  case round =>
   clear H'
   try clear p2
   try clear c3
   try clear c6
   try clear c7
   try clear hcz7_0
   try clear hcz7_1
   try clear hcz9_0
   try clear hcz9_1
   try clear hfz7_0
   try clear hfz7_1
   try clear hfz9_0
   try clear hfz9_1
   obtain ⟨x3_1, x14_1, rfl, HA, HK1, HO_3, BK441, HB⟩ := hrel
   cases gk with
   | zero => exact absurd HA.out (by simp [impl_Keys.l0])
   | succ k1 =>
    have H := HA.out
    clear HA
    simp only [impl_Keys.l0] at H
    by_cases c10 : x14_1 < (l0_1.length : Int)
    ·rw [if_pos c10] at H
     have c10b0 : decide (x14_1 < (l0_1.length : Int)) = true := decide_eq_true c10
     clear c10
     by_cases c11 : 0 ≤ x14_1
     ·rw [if_pos c11] at H
      have c11b0 : decide (0 ≤ x14_1) = true := decide_eq_true c11
      clear c11
      by_cases c12 : x14_1 < (l0_1.length : Int)
      ·rw [if_pos c12] at H
       have c12b0 : decide (x14_1 < (l0_1.length : Int)) = true := decide_eq_true c12
       clear c12
       by_cases c13 : ((rd_T49 l0_1 x14_1).f1).toList = ([] : List UInt8)
       ·rw [if_pos c13] at H
        have c13b0 : (((rd_T49 l0_1 x14_1).f1).toList == ([] : List UInt8)) = true := beq_iff_eq.mpr c13
        have c13b1 : (((rd_T49 l0_1 x14_1).f1).toList != ([] : List UInt8)) = false := bne_eq_false_iff_eq.mpr c13
        clear c13
        have H' := Aside0.mk H
        clear H
        have p446 : 0 ≤ (x14_1 : Int) := of_decide_eq_true AS
        have q446 : x14_1 < (l0_1.length : Int) := of_decide_eq_true AS
        obtain ⟨ad446, e446, hx446_0, hx446_1⟩ := at_T49 HR0_1.out x14_1 p446 q446
        cases e446
        replace hx446_0 := (HB.out.cell (World.block_lt_of_cell? w _ hx446_0)).trans hx446_0
        replace hx446_1 := (HB.out.cell (World.block_lt_of_cell? w _ hx446_1)).trans hx446_1
        replace p446 := eq_true p446
        replace q446 := eq_true q446
        go_wp2_with (first | ((with_reducible refine gate_dst (N := 5) rfl ?_); refine box_event ?hg (N := 5) ?hd (cs := #[.int .i64 0, .string (⟨#[]⟩ : ByteArray)]) (t := 49) ?hr ?_; (case hd => rfl); (case hg => rfl); (case hr => first | (go_simp; done) | (go_simp; rfl)); intro gb447 hg w14 hbox hb; have n_ : _ ∧ _ ∧ _ ∧ _ ∧ _ ∧ _ ∧ _ ∧ _ := ⟨AsM (Kd.R_below (RD HO_3) hb), AsM (blk_below (BD BK441) hb), AsM (below_step BG hb), AsM (hbox), AsM ((GM : w.heap.size ≤ gb447)), AsM ((GM : w.heap.size ≤ gb447)), AsM ((by rw [hg]; exact Nat.ne_of_lt (blk_lt (BD BK441)) : gb441 ≠ gb447)), AsM ((by rw [hg]; exact Nat.ne_of_gt (blk_lt (BD BK441)) : gb447 ≠ gb441))⟩; clear HO_3 BK441 HB; obtain ⟨HO_3, BK441, HB, BK447, GW447, GE447, NB441_447, NB447_441⟩ := n_; clear hb hbox hg; have hnb15 := NB447_441.out; have hnc15 := NB441_447.out; obtain ⟨hcz16_0, hcz16_1, hfz16_0, hfz16_1⟩ := bk2 BK447.out))
        go_roundg k1
        case measure => have := HK1.out; omega
        case rel => exact ⟨(x3_1), (wrap64 (x14_1 + 1)), RS, H', ⟨by have := HK1.out; omega⟩, ⟨by refine PRx ?_; exact Kd.R_mono (FR (FR (Kd.R_types HO_3.out BK447.out (by decide)))) (fun _ hk => trivial)⟩, ⟨by refine PX ?_; refine blk_far ?_ NB441_447.out _; refine PX ?_; refine blk_far ?_ NB441_447.out _; exact BD BK441⟩, ⟨by repeat (first | (with_reducible first | exact HB.out | apply below_alloc | apply pw_below_drewN | apply below_drew1 | refine below_set ?_ GE441.out | refine below_set ?_ GE447.out) | exact HB.out)⟩⟩
       ·rw [if_neg c13] at H
        have c13b0 : (((rd_T49 l0_1 x14_1).f1).toList == ([] : List UInt8)) = false := beq_eq_false_iff_ne.mpr c13
        have c13b1 : (((rd_T49 l0_1 x14_1).f1).toList != ([] : List UInt8)) = true := bne_iff_ne.mpr c13
        by_cases c17 : x3_1.length < 8796093022208
        ·rw [if_pos c17] at H
         have LMc17 := Aside0.mk c17
         clear c17
         obtain ⟨y448, hy448⟩ : ∃ y_ : List ByteArray, y_ = (x3_1 ++ [(rd_T49 l0_1 x14_1).f1]) := ⟨_, rfl⟩
         replace H : (impl_Keys.l0 k1 y448 l0_1 (l0_1.length : Int) (wrap64 (x14_1 + 1))) = some r := by first | (rw [hy448]; with_reducible exact H) | (have H2_ := (Option.bind_some _ _).symm.trans H; rw [hy448]; with_reducible exact H2_) | (have H2_ := (Option.bind_some _ _).symm.trans H; with_reducible exact H2_) | with_reducible exact H | (rw [hy448]; exact H) | exact H
         have Ny448 := Aside0.mk hy448
         clear hy448
         have H' := Aside0.mk H
         clear H
         have p446 : 0 ≤ (x14_1 : Int) := of_decide_eq_true AS
         have q446 : x14_1 < (l0_1.length : Int) := of_decide_eq_true AS
         obtain ⟨ad446, e446, hx446_0, hx446_1⟩ := at_T49 HR0_1.out x14_1 p446 q446
         cases e446
         replace hx446_0 := (HB.out.cell (World.block_lt_of_cell? w _ hx446_0)).trans hx446_0
         replace hx446_1 := (HB.out.cell (World.block_lt_of_cell? w _ hx446_1)).trans hx446_1
         replace p446 := eq_true p446
         replace q446 := eq_true q446
         go_wp2_with (first | ((with_reducible refine gate_dst (N := 5) rfl ?_); refine box_event ?hg (N := 5) ?hd (cs := #[.int .i64 0, .string (⟨#[]⟩ : ByteArray)]) (t := 49) ?hr ?_; (case hd => rfl); (case hg => rfl); (case hr => first | (go_simp; done) | (go_simp; rfl)); intro gb447 hg w18 hbox hb; have n_ : _ ∧ _ ∧ _ ∧ _ ∧ _ ∧ _ ∧ _ ∧ _ := ⟨AsM (Kd.R_below (RD HO_3) hb), AsM (blk_below (BD BK441) hb), AsM (below_step BG hb), AsM (hbox), AsM ((GM : w.heap.size ≤ gb447)), AsM ((GM : w.heap.size ≤ gb447)), AsM ((by rw [hg]; exact Nat.ne_of_lt (blk_lt (BD BK441)) : gb441 ≠ gb447)), AsM ((by rw [hg]; exact Nat.ne_of_gt (blk_lt (BD BK441)) : gb447 ≠ gb441))⟩; clear HO_3 BK441 HB; obtain ⟨HO_3, BK441, HB, BK447, GW447, GE447, NB441_447, NB447_441⟩ := n_; clear hb hbox hg; have hnb19 := NB447_441.out; have hnc19 := NB441_447.out; obtain ⟨hcz20_0, hcz20_1, hfz20_0, hfz20_1⟩ := bk2 BK447.out) | ((with_reducible refine gate_builtin (b := .append) (xs := #[.tmp 21, .tmp 24]) rfl ?_); at_builtin; refine Kd.R_append Kd.string (w0 := w) w.heap.size rfl (.tmp 21) (.tmp 24) 27 9 (.string ⟨#[]⟩) 16 rfl Try.underlying27 info9 rfl (by decide) (by omega) u3 x3_1 ((rd_T49 l0_1 x14_1).f1) [.string ((rd_T49 l0_1 x14_1).f1)] (fun _ => True) (fun _ => False) rfl (by first | (go_simp; done) | (go_simp; rfl)) ?aP (fun _ hk => hk.elim) ?aF ?aO ?aB ?aS ?aL ?_; (case aP => exact rfl); (case aB => exact BG); (case aF => exact (fun _ _ => trivial)); (case aO => exact (by refine PRx ?_; exact Kd.R_mono (FR (FR (Kd.R_types HO_3.out BK447.out (by decide)))) (fun _ hk => trivial))); (case aS => exact (below_size BG)); (case aL => have := LMc17.out; omega); intro v449 w21 ho hb hg hat; rw [← Ny448.out] at ho; have n_ : _ ∧ _ ∧ _ ∧ _ := ⟨AsM (blk_grown (g := gb441) (o := .cells #[.int .i64 a0_0, .slice (some ad446) l0_1.length c0_1] 25 (0, 0)) (by refine PX ?_; refine blk_far ?_ NB441_447.out _; refine PX ?_; refine blk_far ?_ NB441_447.out _; exact BD BK441) hg (Kd.R_ne HO_3.out BK441.out (by decide))), AsM (blk_grown (g := gb447) (o := .cells #[.int .i64 ((rd_T49 l0_1 x14_1).f0), .string ((rd_T49 l0_1 x14_1).f1)] 49 (0, 0)) (by refine PX ?_; refine blk_put (cs := #[.int .i64 ((rd_T49 l0_1 x14_1).f0), .string (⟨#[]⟩ : ByteArray)]) ?_ 1 _ rfl; refine PX ?_; refine blk_put (cs := #[.int .i64 0, .string (⟨#[]⟩ : ByteArray)]) ?_ 0 _ rfl; exact BD BK447) hg (Kd.R_ne HO_3.out BK447.out (by decide))), AsM (hb), AsM (ho)⟩; clear BK441 BK447 HB HO_3; obtain ⟨BK441, BK447, HB, HO450⟩ := n_; clear ho hb hg hat))
         go_roundg k1
         case measure => have := HK1.out; omega
         case rel => exact ⟨(y448), (wrap64 (x14_1 + 1)), RS, H', ⟨by have := HK1.out; omega⟩, ⟨RD HO450⟩, ⟨BD BK441⟩, ⟨by repeat (first | (with_reducible first | exact HB.out | apply below_alloc | apply pw_below_drewN | apply below_drew1 | refine below_set ?_ GE441.out | refine below_set ?_ GE447.out) | exact HB.out)⟩⟩
        ·rw [if_neg c17] at H
         exact absurd H (by simp)
      ·rw [if_neg c12] at H
       exact absurd H (by simp)
     ·rw [if_neg c11] at H
      exact absurd H (by simp)
    ·rw [if_neg c10] at H
     have c10b0 : decide (x14_1 < (l0_1.length : Int)) = false := decide_eq_false c10
     clear c10
     obtain rfl := Option.some.inj H
     go_wp2
     go_ret
     exact ⟨_, ER, RD HO_3, BG⟩
 ·replace c3 := Bool.eq_false_iff.mpr c3
  subst c3
  replace H := IN H
  obtain rfl := Option.some.inj H
  go_enter Try.func6, Try.ntmps6
  go_wp2_with (first | ((with_reducible refine gate_dst (N := 1) rfl ?_); refine box_event ?hg (N := 1) ?hd (cs := #[.int .i64 a0_0, .slice A0_1 l0_1.length c0_1]) (t := 25) ?hr ?_; (case hd => rfl); (case hg => rfl); (case hr => first | (go_simp; done) | (go_simp; rfl)); intro gb441 hg w22 hbox hb; have n_ : _ ∧ _ ∧ _ ∧ _ := ⟨AsM (below_step BL hb), AsM (hbox), AsM ((GL : w.heap.size ≤ gb441)), AsM ((GL : w.heap.size ≤ gb441))⟩; clear HB; obtain ⟨HB, BK441, GW441, GE441⟩ := n_; clear hb hbox hg) | ((with_reducible refine gate_dst (N := 6) rfl ?_); refine Kd.R_lit Kd.string _ 9 ?hg (N := 6) ?hd (xs := ([] : List ByteArray)) (inner := []) (ok := fun _ => True) (okp := fun _ => True) ?hr ?hp (fun _ hk => hk) trivial (Below.refl _ _) (Nat.le_refl _) (by simp) ?_; (case hd => rfl); (case hg => rfl); (case hr => first | (go_simp; done) | (go_simp; rfl)); (case hp => exact (Reps.none _ _)); intro v443 w23 ho24 hb hg_ hnew_; clear hg_ hnew_; (first | rw [← Ny442.out] at ho24 | (simp only [Int.reduceToNat] at ho24; rw [← Ny442.out] at ho24)); have n_ : _ ∧ _ ∧ _ := ⟨AsM (Kd.R_lower ho24 (below_size BG)), AsM (blk_below (BD BK441) hb), AsM (below_step BG hb)⟩; clear BK441 HB; obtain ⟨HO444, BK441, HB⟩ := n_; clear hb ho24; obtain ⟨hcz25_0, hcz25_1, hfz25_0, hfz25_1⟩ := bk2 BK441.out) | ((with_reducible refine gate_callee (f := 7) rfl ?_); refine goesL_ (some 8) rfl rfl Try.func7 (by kernel_rfl) rfl #[.agg #[.int .i64 a0_0, .slice A0_1 l0_1.length c0_1]] rfl AQ ?_; (with_reducible refine (impl_TableOk.calls k a0_0 _ _ l0_1 false _ ?side1 ?side2 A2.out).mono ?_); (case side1 => exact SC HR0_1); (case side2 => exact HC0_1.out); rintro e w26 ⟨rfl, hb⟩; refine ⟨_, rfl, ?_⟩; have n_ : _ ∧ _ ∧ _ := ⟨AsM (Kd.R_below (RD HO444) hb), AsM (blk_below (BD BK441) hb), AsM (below_step BG hb)⟩; clear HO444 BK441 HB; obtain ⟨HO444, BK441, HB⟩ := n_; (try clear hb); (try clear hb2); (try clear hk); (try clear hi)))
  go_ret
  exact ⟨_, ER, RD HO444, BG⟩
def impl_Bucket.f (a0 : Int) (a1 : Int) : Option (Int) := (impl_isNum.f a0).bind fun t505 => (if t505 = true then ((impl_within.f a1 1 4294967295).bind fun t506 => (if t506 = true then (if a1 = 0 then (none) else (some (Int.tmod a0 a1))) else (some 0))) else (some 0))
set_option maxHeartbeats 8000000 in
set_option maxRecDepth 100000 in
theorem impl_Bucket.calls (a0 : Int) (a1 : Int) (r : Int) (w : World) (h : impl_Bucket.f a0 a1 = some r) :
  Calls Try.prog 18 #[.int .i64 a0, .int .i64 a1] w fun e w' => e = .returned (.int .i64 r) ∧ Drawn0 w w' := by
 have H : ((impl_isNum.f a0).bind fun t505 => (if t505 = true then ((impl_within.f a1 1 4294967295).bind fun t506 => (if t506 = true then (if a1 = 0 then (none) else (some (Int.tmod a0 a1))) else (some 0))) else (some 0))) = some r := h
 clear h
 replace H := BS H
 obtain ⟨t505, A30, H⟩ := H
 have A3 := Aside0.mk A30
 clear A30
 by_cases c4 : t505 = true
 ·subst c4
  replace H := IP H
  replace H := BS H
  obtain ⟨t506, A50, H⟩ := H
  have A5 := Aside0.mk A50
  clear A50
  by_cases c6 : t506 = true
  ·subst c6
   replace H := IP H
   by_cases c7 : a1 = 0
   ·rw [if_pos c7] at H
    exact absurd H (by simp)
   ·rw [if_neg c7] at H
    have c7b0 : (a1 == 0) = false := beq_eq_false_iff_ne.mpr c7
    have c7b1 : (a1 != 0) = true := bne_iff_ne.mpr c7
    obtain rfl := Option.some.inj H
    go_enter Try.func18, Try.ntmps18
    go_wp2_with (first | ((with_reducible refine gate_callee (f := 39) rfl ?_); refine goesL_ (some 6) rfl rfl Try.func39 (by kernel_rfl) rfl #[.int .i64 a0] rfl AQ ?_; (with_reducible refine (impl_isNum.calls a0 true _ A3.out).mono ?_); rintro e w' ⟨rfl, ⟨nd, rfl⟩⟩; refine ⟨_, rfl, ?_⟩) | (go_at_call 23; (with_reducible refine (impl_within.calls a1 1 4294967295 true _ A5.out).mono ?_); rintro e w' ⟨rfl, ⟨nd, rfl⟩⟩))
    go_ret
    exact ⟨by first | rfl | (simp; done) | (simp [*]; done), DR⟩
  ·replace c6 := Bool.eq_false_iff.mpr c6
   subst c6
   replace H := IN H
   obtain rfl := Option.some.inj H
   go_enter Try.func18, Try.ntmps18
   go_wp2_with (first | ((with_reducible refine gate_callee (f := 39) rfl ?_); refine goesL_ (some 6) rfl rfl Try.func39 (by kernel_rfl) rfl #[.int .i64 a0] rfl AQ ?_; (with_reducible refine (impl_isNum.calls a0 true _ A3.out).mono ?_); rintro e w' ⟨rfl, ⟨nd, rfl⟩⟩; refine ⟨_, rfl, ?_⟩) | (go_at_call 23; (with_reducible refine (impl_within.calls a1 1 4294967295 false _ A5.out).mono ?_); rintro e w' ⟨rfl, ⟨nd, rfl⟩⟩))
   go_ret
   exact ⟨by first | rfl | (simp; done) | (simp [*]; done), DR⟩
 ·replace c4 := Bool.eq_false_iff.mpr c4
  subst c4
  replace H := IN H
  obtain rfl := Option.some.inj H
  go_enter Try.func18, Try.ntmps18
  go_wp2_with (first | ((with_reducible refine gate_callee (f := 39) rfl ?_); refine goesL_ (some 6) rfl rfl Try.func39 (by kernel_rfl) rfl #[.int .i64 a0] rfl AQ ?_; (with_reducible refine (impl_isNum.calls a0 false _ A3.out).mono ?_); rintro e w' ⟨rfl, ⟨nd, rfl⟩⟩; refine ⟨_, rfl, ?_⟩))
  go_ret
  exact ⟨by first | rfl | (simp; done) | (simp [*]; done), DR⟩
def laws_sameTexts.l0 : Nat → List ByteArray → List ByteArray → Int → Int → Option (Bool)
 | 0, _, _, _, _ => none
 | k + 1, x0, x1, x12, x13 => if x13 < x12 then (if 0 ≤ x13 then (if x13 < (x0.length : Int) then (if x13 < (x1.length : Int) then (if (rdOf ByteArray.empty x0 x13).toList = (rdOf ByteArray.empty x1 x13).toList then (laws_sameTexts.l0 k x0 x1 x12 (wrap64 (x13 + 1))) else (some false)) else (none)) else (none)) else (none)) else (some true)
def laws_sameTexts.f (k : Nat) (l0 : List ByteArray) (l1 : List ByteArray) : Option (Bool) := if (l0.length : Int) = (l1.length : Int) then (laws_sameTexts.l0 k l0 l1 (l0.length : Int) 0) else (some false)
theorem laws_sameTexts.mono_l : ∀ k, (∀ y0 y1 y2 y3, LeO (laws_sameTexts.l0 k y0 y1 y2 y3) (laws_sameTexts.l0 (k + 1) y0 y1 y2 y3))
 | 0 => fun _ _ _ _ r h => by simp [laws_sameTexts.l0] at h
 | k + 1 => by
  have ih0 := laws_sameTexts.mono_l k
  ·intro y0 y1 y2 y3
   unfold laws_sameTexts.l0
   repeat' first | (with_reducible first | exact ih0 _ _ _ _ | exact LeO.refl _ | exact LeO.none _ | refine LeO.ite ?_ ?_ | refine LeO.bind ?_ (fun _ => ?_)) | exact ih0 _ _ _ _ | exact LeO.none _ | refine LeO.ite ?_ ?_ | refine LeO.bind ?_ (fun _ => ?_)
theorem laws_sameTexts.mono : ∀ a0 a1 k, LeO (laws_sameTexts.f k a0 a1) (laws_sameTexts.f (k + 1) a0 a1) := by
 intro a0 a1 k
 have ih0 := laws_sameTexts.mono_l k
 unfold laws_sameTexts.f
 repeat' first | (with_reducible first | exact ih0 _ _ _ _ | exact LeO.refl _ | exact LeO.none _ | refine LeO.ite ?_ ?_ | refine LeO.bind ?_ (fun _ => ?_)) | exact ih0 _ _ _ _ | exact LeO.none _ | refine LeO.ite ?_ ?_ | refine LeO.bind ?_ (fun _ => ?_)
set_option maxHeartbeats 8000000 in
set_option maxRecDepth 100000 in
theorem laws_sameTexts.calls (k : Nat) (A0 : Option Addr) (c0 : Nat) (l0 : List ByteArray) (A1 : Option Addr) (c1 : Nat) (l1 : List ByteArray) (r : Bool) (w : World) (hr0 : Kd.C Kd.string w A0 l0.length l0) (hc0 : l0.length ≤ c0) (hr1 : Kd.C Kd.string w A1 l1.length l1) (hc1 : l1.length ≤ c1) (h : laws_sameTexts.f k l0 l1 = some r) :
  Calls Try.prog 15 #[.slice A0 l0.length c0, .slice A1 l1.length c1] w fun e w' => e = .returned (.bool r) ∧ Drawn0 w w' := by
 have HR0 := Aside0.mk hr0
 have HC0 := Aside0.mk hc0
 clear hr0 hc0
 have HR1 := Aside0.mk hr1
 have HC1 := Aside0.mk hc1
 clear hr1 hc1
 have H : (if (l0.length : Int) = (l1.length : Int) then (laws_sameTexts.l0 k l0 l1 (l0.length : Int) 0) else (some false)) = some r := h
 clear h
 by_cases c3 : (l0.length : Int) = (l1.length : Int)
 ·rw [if_pos c3] at H
  have c3b0 : ((l0.length : Int) == (l1.length : Int)) = true := beq_iff_eq.mpr c3
  have c3b1 : ((l0.length : Int) != (l1.length : Int)) = false := bne_eq_false_iff_eq.mpr c3
  have c3b2 : (l0.length == l1.length) = true := by first | simpa using c3 | (simp at c3 ⊢; omega)
  clear c3
  have H' := Aside0.mk H
  clear H
  go_enter Try.func15, Try.ntmps15
  go_wp2
  repeat (go_quiet (fail); try go_wp2)
  go_loopg [13] k (fun kq v13 w' => ∃ (x13_1 : Int), v13 = .int .i64 x13_1 ∧ Aside0 (laws_sameTexts.l0 kq l0 l1 (l0.length : Int) x13_1 = some r) ∧ Aside0 (kq ≤ k) ∧ Drawn0 w w')
  case atStart => exact ⟨(0), RS, H', ⟨Nat.le_refl _⟩, DR⟩
  case round =>
   clear H'
   try clear c1
   try clear p2
   try clear c3
   try clear c3b0
   try clear c3b1
   try clear c3b2
   obtain ⟨x13_1, rfl, HA, HK1, ⟨m1, rfl⟩⟩ := hrel
   cases gk with
   | zero => exact absurd HA.out (by simp [laws_sameTexts.l0])
   | succ k1 =>
    have H := HA.out
    clear HA
    simp only [laws_sameTexts.l0] at H
    by_cases c4 : x13_1 < (l0.length : Int)
    ·rw [if_pos c4] at H
     have c4b0 : decide (x13_1 < (l0.length : Int)) = true := decide_eq_true c4
     clear c4
     by_cases c5 : 0 ≤ x13_1
     ·rw [if_pos c5] at H
      have c5b0 : decide (0 ≤ x13_1) = true := decide_eq_true c5
      clear c5
      by_cases c6 : x13_1 < (l0.length : Int)
      ·rw [if_pos c6] at H
       have c6b0 : decide (x13_1 < (l0.length : Int)) = true := decide_eq_true c6
       clear c6
       by_cases c7 : x13_1 < (l1.length : Int)
       ·rw [if_pos c7] at H
        have c7b0 : decide (x13_1 < (l1.length : Int)) = true := decide_eq_true c7
        clear c7
        by_cases c8 : (rdOf ByteArray.empty l0 x13_1).toList = (rdOf ByteArray.empty l1 x13_1).toList
        ·rw [if_pos c8] at H
         have c8b0 : ((rdOf ByteArray.empty l0 x13_1).toList == (rdOf ByteArray.empty l1 x13_1).toList) = true := beq_iff_eq.mpr c8
         have c8b1 : ((rdOf ByteArray.empty l0 x13_1).toList != (rdOf ByteArray.empty l1 x13_1).toList) = false := bne_eq_false_iff_eq.mpr c8
         clear c8
         have H' := Aside0.mk H
         clear H
         have p575 : 0 ≤ (x13_1 : Int) := of_decide_eq_true AS
         have q575 : x13_1 < (l0.length : Int) := of_decide_eq_true AS
         obtain ⟨ad575, e575, hx575_0⟩ := Kd.at_string HR0.out x13_1 p575 q575
         cases e575
         replace p575 := eq_true p575
         replace q575 := eq_true q575
         have p576 : 0 ≤ (x13_1 : Int) := of_decide_eq_true AS
         have q576 : x13_1 < (l1.length : Int) := of_decide_eq_true AS
         obtain ⟨ad576, e576, hx576_0⟩ := Kd.at_string HR1.out x13_1 p576 q576
         cases e576
         replace p576 := eq_true p576
         replace q576 := eq_true q576
         go_wp2
         repeat (go_quiet (fail); try go_wp2)
         go_roundg k1
         case measure => have := HK1.out; omega
         case rel => exact ⟨(wrap64 (x13_1 + 1)), RS, H', ⟨by have := HK1.out; omega⟩, DR⟩
        ·rw [if_neg c8] at H
         have c8b0 : ((rdOf ByteArray.empty l0 x13_1).toList == (rdOf ByteArray.empty l1 x13_1).toList) = false := beq_eq_false_iff_ne.mpr c8
         have c8b1 : ((rdOf ByteArray.empty l0 x13_1).toList != (rdOf ByteArray.empty l1 x13_1).toList) = true := bne_iff_ne.mpr c8
         obtain rfl := Option.some.inj H
         have p575 : 0 ≤ (x13_1 : Int) := of_decide_eq_true AS
         have q575 : x13_1 < (l0.length : Int) := of_decide_eq_true AS
         obtain ⟨ad575, e575, hx575_0⟩ := Kd.at_string HR0.out x13_1 p575 q575
         cases e575
         replace p575 := eq_true p575
         replace q575 := eq_true q575
         have p576 : 0 ≤ (x13_1 : Int) := of_decide_eq_true AS
         have q576 : x13_1 < (l1.length : Int) := of_decide_eq_true AS
         obtain ⟨ad576, e576, hx576_0⟩ := Kd.at_string HR1.out x13_1 p576 q576
         cases e576
         replace p576 := eq_true p576
         replace q576 := eq_true q576
         go_wp2
         repeat (go_quiet (fail); try go_wp2)
         go_ret
         exact ⟨by first | rfl | (simp; done) | (simp [*]; done), DR⟩
       ·rw [if_neg c7] at H
        exact absurd H (by simp)
      ·rw [if_neg c6] at H
       exact absurd H (by simp)
     ·rw [if_neg c5] at H
      exact absurd H (by simp)
    ·rw [if_neg c4] at H
     have c4b0 : decide (x13_1 < (l0.length : Int)) = false := decide_eq_false c4
     clear c4
     obtain rfl := Option.some.inj H
     go_wp2
     repeat (go_quiet (fail); try go_wp2)
     go_ret
     exact ⟨by first | rfl | (simp; done) | (simp [*]; done), DR⟩
 ·rw [if_neg c3] at H
  have c3b0 : ((l0.length : Int) == (l1.length : Int)) = false := beq_eq_false_iff_ne.mpr c3
  have c3b1 : ((l0.length : Int) != (l1.length : Int)) = true := bne_iff_ne.mpr c3
  have c3b2 : (l0.length == l1.length) = false := by first | simpa using c3 | (simp at c3 ⊢; omega)
  obtain rfl := Option.some.inj H
  go_enter Try.func15, Try.ntmps15
  go_wp2
  repeat (go_quiet (fail); try go_wp2)
  go_ret
  exact ⟨by first | rfl | (simp; done) | (simp [*]; done), DR⟩
def impl_copyTable.f (a0_0 : Int) (l0_1 : List (S49)) : Option (Int × (List (S49))) := if ([] : List (S49)).length + l0_1.length < 5864062014805 then (some (a0_0, (([] : List (S49)) ++ l0_1))) else (none)
set_option maxHeartbeats 8000000 in
set_option maxRecDepth 100000 in
theorem impl_copyTable.calls (a0_0 : Int) (A0_1 : Option Addr) (c0_1 : Nat) (l0_1 : List (S49)) (r1 : Int) (r2 : List (S49)) (w : World) (hr0_1 : Kd.C k49 w A0_1 l0_1.length l0_1) (hc0_1 : l0_1.length ≤ c0_1) (h : impl_copyTable.f a0_0 l0_1 = some (r1, r2)) :
  Calls Try.prog 33 #[.agg #[.int .i64 a0_0, .slice A0_1 l0_1.length c0_1]] w fun e w' => ∃ v1_ : Value, e = .returned (.agg #[.int .i64 r1, v1_]) ∧ Kd.R k49 49 w' w.heap.size (fun _ => True) v1_ r2 ∧ Below w.heap.size w w' := by
 have hu25 := Try.underlying25
 have HR0_1 := Aside0.mk hr0_1
 have HC0_1 := Aside0.mk hc0_1
 clear hr0_1 hc0_1
 have HB := Aside0.mk (Below.refl w.heap.size w)
 have H : (if ([] : List (S49)).length + l0_1.length < 5864062014805 then (some (a0_0, (([] : List (S49)) ++ l0_1))) else (none)) = some (r1, r2) := h
 clear h
 by_cases c2 : ([] : List (S49)).length + l0_1.length < 5864062014805
 ·rw [if_pos c2] at H
  have LMc2 := Aside0.mk c2
  clear c2
  obtain ⟨y479, hy479⟩ : ∃ y_ : List (S49), y_ = (([] : List (S49)) ++ l0_1) := ⟨_, rfl⟩
  replace H : (some (a0_0, y479)) = some (r1, r2) := by first | (rw [hy479]; with_reducible exact H) | (have H2_ := (Option.bind_some _ _).symm.trans H; rw [hy479]; with_reducible exact H2_) | (have H2_ := (Option.bind_some _ _).symm.trans H; with_reducible exact H2_) | with_reducible exact H | (rw [hy479]; exact H) | exact H
  have Ny479 := Aside0.mk hy479
  clear hy479
  simp only [Option.some.injEq, Prod.mk.injEq] at H
  obtain ⟨rfl, rfl⟩ := H
  go_enter Try.func33, Try.ntmps33
  try go_wp2_with (first | ((with_reducible refine gate_dst (N := 1) rfl ?_); refine box_event ?hg (N := 1) ?hd (cs := #[.int .i64 a0_0, .slice A0_1 l0_1.length c0_1]) (t := 25) ?hr ?_; (case hd => rfl); (case hg => rfl); (case hr => first | (go_simp; done) | (go_simp; rfl)); intro gb477 hg w3 hbox hb; have n_ : _ ∧ _ ∧ _ ∧ _ := ⟨AsM (below_step BL hb), AsM (hbox), AsM ((GL : w.heap.size ≤ gb477)), AsM ((GL : w.heap.size ≤ gb477))⟩; clear HB; obtain ⟨HB, BK477, GW477, GE477⟩ := n_; clear hb hbox hg) | ((with_reducible refine gate_dst (N := 2) rfl ?_); refine box_event ?hg (N := 2) ?hd (cs := #[.int .i64 0, .slice none 0 0]) (t := 25) ?hr ?_; (case hd => rfl); (case hg => rfl); (case hr => first | (go_simp; done) | (go_simp; rfl)); intro gb478 hg w4 hbox hb; have n_ : _ ∧ _ ∧ _ ∧ _ ∧ _ ∧ _ ∧ _ := ⟨AsM (blk_below (BD BK477) hb), AsM (below_step BG hb), AsM (hbox), AsM ((GM : w.heap.size ≤ gb478)), AsM ((GM : w.heap.size ≤ gb478)), AsM ((by rw [hg]; exact Nat.ne_of_lt (blk_lt (BD BK477)) : gb477 ≠ gb478)), AsM ((by rw [hg]; exact Nat.ne_of_gt (blk_lt (BD BK477)) : gb478 ≠ gb477))⟩; clear BK477 HB; obtain ⟨BK477, HB, BK478, GW478, GE478, NB477_478, NB478_477⟩ := n_; clear hb hbox hg))
  have n_ : _ ∧ _ ∧ _ := ⟨AsM (blk_drew BK477.out), AsM (blk_drew BK478.out), AsM (below_drew1 HB.out)⟩
  clear BK477 BK478 HB
  obtain ⟨BK477, BK478, HB⟩ := n_
  refine start_ (n := 7) (S := fun w' => w'.cell? ⟨gb477, 0, none⟩ = some (.int .i64 a0_0) ∧ w'.cell? ⟨gb477, 1, none⟩ = some (.slice A0_1 l0_1.length c0_1)) (ds := []) #[false, false, false, false, false, false, false] (by kernel_rfl) rfl rfl ⟨(blk_cell BK477.out 0).trans rfl, (blk_cell BK477.out 1).trans rfl⟩ (fun hHeld => ?_)
  generalize w4.drew = w5 at BK477 BK478 HB hHeld ⊢
  refine PV (i := 0) (N := some 3) (tf 1 6) rfl rfl ?_
  refine PV (i := 2) (N := some 5) #[true, false, true, false, false, false, false] rfl rfl ?_
  refine PK (i := 1) (N := some 4) (tf 3 4) rfl rfl hHeld ?_
  refine PK (i := 3) (N := some 6) (tf 4 3) rfl rfl hHeld ?_
  refine one_ (i := 4) (N := some 7) (tf 5 2) rfl rfl (by kernel_rfl) (by decide) (fun K hK => ?_)
  refine Kd.R_append_rows_step k49 (w0 := w) w.heap.size rfl (.const (.slice none 0 0)) (.tmp 6) 23 49 (.agg #[(.int .i64 0), (.string ⟨#[]⟩)]) 24 rfl Try.underlying23 info49 rfl (by decide) (by omega) (.slice none 0 0) ([] : List (S49)) l0_1 _ _ _ (fun _ => True) (fun _ => False) rfl rfl ?aO ?aR (fun _ _ h => h) (fun _ h => h.elim) ?aF ?aB ?aS ?aL ?_
  (case aR => repeat (first | exact (Kd.C_below HR0_1.out HB.out) | (with_reducible refine Kd.C_alloc ?_ _) | (with_reducible refine Kd.C_drewN ?_ _) | (with_reducible refine Kd.C_drew ?_)))
  (case aB => exact BG)
  (case aF => exact (fun _ _ => trivial))
  (case aO => exact ((Kd.R_nil _ _ _ _ (fun _ => True))))
  (case aS => exact (below_size BG))
  (case aL => have := LMc2.out; omega)
  intro v480 w6 ho hb hg hat
  rw [← Ny479.out] at ho
  have n_ : _ ∧ _ ∧ _ ∧ _ := ⟨AsM (blk_grown (g := gb477) (o := .cells #[.int .i64 a0_0, .slice A0_1 l0_1.length c0_1] 25 (0, 0)) (BD BK477) hg (by simp [Value.ownBlock])), AsM (blk_grown (g := gb478) (o := .cells #[.int .i64 0, .slice none 0 0] 25 (0, 0)) (BD BK478) hg (by simp [Value.ownBlock])), AsM (hb), AsM (ho)⟩
  clear BK477 BK478 HB
  obtain ⟨BK477, BK478, HB, HO481⟩ := n_
  clear ho hb hg hat
  obtain ⟨Ao7, co7, eo7⟩ := Kd.R_slice HO481.out
  (first | subst eo7 | (injection eo7 with f1_ f2_ f3_; have f4_ := f1_.symm; have f5_ := f3_.symm; clear f1_ f2_ f3_; subst f4_; subst f5_))
  refine hK.out _ _ ⟨(blk_cell BK477.out 0).trans rfl, (blk_cell BK477.out 1).trans rfl⟩ (fun hHeld => ?_)
  clear hK K
  refine NM (some 7) ?_
  refine PV (i := 5) (N := some 8) (tf 6 1) rfl rfl ?_
  refine one_ (i := 6) (N := none) (tf 7 0) rfl rfl (by kernel_rfl) (by decide) (fun K hK => ?_)
  have hs8 : w6.cell? ⟨gb478, 0, none⟩ = some (.int .i64 0) := (blk_cell BK478.out 0).trans rfl
  have hfs8 := blk_frozen BK478.out 0
  have hns8_0 := NB477_478.out
  have hms8_0 := NB478_477.out
  have hs9 : w6.cell? ⟨gb478, 1, none⟩ = some (.slice none 0 0) := (blk_cell BK478.out 1).trans rfl
  have hfs9 := blk_frozen BK478.out 1
  have hns9_0 := NB477_478.out
  have hms9_0 := NB478_477.out
  refine skip_ (w1 := ?_) (by rfl) rfl ?_ ?_
  rotate_left
  ·go_simp
   rfl
  refine hK.out _ _ ⟨((cell_far (p := ⟨gb478, _, none⟩) NB477_478.out _).trans (((cell_far (p := ⟨gb478, _, none⟩) NB477_478.out _).trans (hHeld.1)))), ((cell_far (p := ⟨gb478, _, none⟩) NB477_478.out _).trans (((cell_far (p := ⟨gb478, _, none⟩) NB477_478.out _).trans (hHeld.2))))⟩ (fun hHeld => ?_)
  clear hK K
  refine done_ (by kernel_rfl) ?_
  try go_wp2
  refine bodyPost_ret (results_cell_row rfl _ _ gb478 25 #[.int .i64 a0_0, .slice Ao7 y479.length co7] (0, 0) _ rfl (by refine PX ?_; refine blk_put (cs := #[.int .i64 a0_0, .slice none 0 0]) ?_ 1 _ rfl; refine PX ?_; refine blk_put (cs := #[.int .i64 0, .slice none 0 0]) ?_ 0 _ rfl; exact BD BK478) Try.underlying25 rfl (by kernel_rfl)) rfl ?_
  exact ⟨_, ER, by refine PRx ?_; exact Kd.R_mono (FR (FR (Kd.R_types HO481.out BK478.out (by decide)))) (fun _ hk => trivial), BG⟩
 ·rw [if_neg c2] at H
  exact absurd H (by simp)
end Go.Proofs.Ytbjlldjkkdiblaa.G

namespace Go.Proofs.Ytbjlldjkkdiblaa.Ins
open Go.RowKit Go.Proofs.YtbjlldjkkdiblaaW.PrintWords Go.Proofs.YtbjlldjkkdiblaaW.PrintLast Go.Proofs.YtbjlldjkkdiblaaW.PrintMore
set_option linter.unusedVariables false
section
variable {P : Program}
theorem run_copy_cellsN (w : World) (dT sT ty elem : TypeId) (sz b o dLen dCap : Nat) (a : Addr) (sLen sCap : Nat) (cs : List Value)
  (hu : P.underlying dT = some (.slice elem)) (hs : (P.info? elem).map (·.size) = some sz) (hn : cs.length = Nat.min sLen dLen * sz)
  (hsrc : ∀ j v, cs[j]? = some v → w.cell? (a.add j) = some v) (hc : ∀ j, j < cs.length → (w.cell? ⟨b, o + j, none⟩).isSome = true) (hf : ∀ j, j < cs.length → w.frozen? ⟨b, o + j, none⟩ = false) (h1 : ∀ v ∈ cs, v.oneCell' = true) :
  (Builtin.copy_ #[dT, sT] ty #[.slice (some ⟨b, o, none⟩) dLen dCap, .slice (some a) sLen sCap]).run P w = .ok (goInt (Nat.min sLen dLen)) (w.setCells b o cs) := by
 have hl := run_loadCells_list (P := P) w a cs hsrc
 have hst := run_storeCells_cells (P := P) b o cs 0 w (by simpa using hc) (by simpa using hf) h1
 cases hq : P.info? elem with
 | none => simp [hq] at hs
 | some i =>
  have hi : i.size = sz := by simpa [hq] using hs
  rw [hn] at hl
  simp [Builtin.copy_, run_underlying hu, Builtin.lenOf, Builtin.firstCells, sizeOf, typeInfo, hq, hi, hl, hst]
theorem R_insert_shift {α : Type} (d : Kd α) {W : World} (base : Nat) (e : TypeId) {g n c i : Nat} {xs : List α} {x : α} {ok : Nat → Prop} (HO : d.R e W base ok (.slice (some ⟨g, 0, none⟩) n c) xs) (hi : i ≤ n) (hroom : n + 1 ≤ c)
  (seg : List Value) (hseg : seg.length = d.sz) (hM : d.M W base (fun k' => ok k' ∧ some k' ≠ (Value.slice (some ⟨g, 0, none⟩) n c).ownBlock) x seg) :
  ∃ inner : List Value, inner.length = n * d.sz ∧ (∀ j v, inner[j]? = some v → W.cell? ⟨g, j, none⟩ = some v) ∧ (∀ j, j < c * d.sz → (W.cell? ⟨g, j, none⟩).isSome = true) ∧ (∀ j, W.frozen? ⟨g, j, none⟩ = false) ∧ (∀ v ∈ inner, v.oneCell' = true) ∧
   d.R e ((W.setCells g ((i + 1) * d.sz) (inner.drop (i * d.sz))).setCells g (i * d.sz) seg) base ok (.slice (some ⟨g, 0, none⟩) (n + 1) c) (xs.take i ++ x :: xs.drop i) ∧
   W.grownBy ((W.setCells g ((i + 1) * d.sz) (inner.drop (i * d.sz))).setCells g (i * d.sz) seg) (some g) := by
 obtain ⟨hn, hnc, _⟩ := Kd.R_reads' HO
 obtain ⟨hok, inner, hown, hr⟩ := HO
 have hin : inner.length = n * d.sz := by rw [hr.1, hn]
 rcases hown.2 with ⟨hv, _⟩ | ⟨g', cap', cur, hv, hb, hh, _, hcm, hcs, htake⟩
 ·cases hv
 injection hv with ha _ hc
 injection ha with ha
 injection ha with hg
 subst hg; subst hc
 rw [← hn] at htake
 have hcur : ∀ q, q < n * d.sz → cur.toList[q]? = inner[q]? := by
  intro q hq
  rw [← htake, List.getElem?_take, if_pos hq]
 have hone : ∀ u ∈ inner, u.oneCell' = true := by
  intro u hu'
  obtain ⟨q, hq, rfl⟩ := List.mem_iff_getElem.1 hu'
  have hs0 : 0 < d.sz := by
   rcases Nat.eq_zero_or_pos d.sz with h | h
   ·rw [h, Nat.mul_zero] at hin; omega
   ·exact h
  have hql : q / d.sz < xs.length := by
   rw [Nat.div_lt_iff_lt_mul hs0, ← hr.1]
   exact hq
  refine d.K_one (d.K_of_M (hr.2 (q / d.sz) _ (List.getElem?_eq_getElem hql))) _ ?_
  rw [List.mem_iff_getElem?]
  refine ⟨q % d.sz, ?_⟩
  rw [List.getElem?_take, if_pos (Nat.mod_lt _ hs0), List.getElem?_drop, Nat.mul_comm, Nat.div_add_mod, List.getElem?_eq_getElem hq]
 have hisz : (i + 1) * d.sz = i * d.sz + d.sz := Nat.succ_mul _ _
 have hnsz : (n + 1) * d.sz = n * d.sz + d.sz := Nat.succ_mul _ _
 have hle : i * d.sz ≤ n * d.sz := Nat.mul_le_mul_right _ hi
 have hcc : (n + 1) * d.sz ≤ c * d.sz := Nat.mul_le_mul_right _ hroom
 obtain ⟨news, hnews⟩ : ∃ news, news = inner.drop (i * d.sz) := ⟨_, rfl⟩
 have hnl : news.length = n * d.sz - i * d.sz := by rw [hnews, List.length_drop, hin]
 obtain ⟨cur1, h3, h4, h5⟩ := setCells_row news ((i + 1) * d.sz) W cur hh (by omega)
 obtain ⟨cur2, k3, k4, k5⟩ := setCells_row seg (i * d.sz) (W.setCells g ((i + 1) * d.sz) news) cur1 h3 (by omega)
 obtain ⟨s1, s2, s3, s4⟩ := setCells_same g news ((i + 1) * d.sz) W
 obtain ⟨t1, t2, t3, t4⟩ := setCells_same g seg (i * d.sz) (W.setCells g ((i + 1) * d.sz) news)
 have hfar : ∀ k', k' ≠ g → ((W.setCells g ((i + 1) * d.sz) news).setCells g (i * d.sz) seg).heap[k']? = W.heap[k']? := fun k' hk' => (setCells_far seg _ k' hk').trans (setCells_far news _ k' hk')
 have hgo : ∀ m, some g = (Value.slice (some ⟨g, 0, none⟩) m c).ownBlock := fun m => by simp [Value.ownBlock]
 have hel : (xs.take i ++ x :: xs.drop i).length = n + 1 := by simp [hn]; omega
 refine ⟨inner, hin, fun j v hj => ?_, fun j hj => ?_, fun j => blk_frozen hh _, hone, ?_⟩
 ·have hjl : j < inner.length := (List.getElem?_eq_some_iff.1 hj).1
  rw [cell_of_row W g _ cur e (0, 0) hh, ← Array.getElem?_toList, hcur _ (by omega)]
  exact hj
 ·rw [cell_of_row W g _ cur e (0, 0) hh]
  simp; omega
 rw [← hnews]
 refine ⟨⟨fun k' hk' => hok k' (by rw [← hgo] at hk' ⊢; exact hk'), inner.take (i * d.sz) ++ (seg ++ news), ⟨?_, .inr ⟨g, c, cur2, by rw [hel], hb, k3, by rw [hel]; omega, hcm, by rw [k4, h4, hcs], ?_⟩⟩, ?_⟩, ⟨by rw [t1, s1], by rw [t2, s2], by rw [t3, s3], by rw [t4, s4]; exact Nat.le_refl _, fun k' _ hk' => hfar k' (fun he => hk' (by rw [he]))⟩⟩
 ·rw [List.length_append, List.length_append, List.length_take, hnl, hel, hseg]
  omega
 ·rw [hel, k5, h5]
  have h7 : (cur.toList.take ((i + 1) * d.sz) ++ news ++ cur.toList.drop ((i + 1) * d.sz + news.length)).take (i * d.sz) = inner.take (i * d.sz) := by
   rw [List.append_assoc, List.take_append_of_le_length (by rw [List.length_take, Array.length_toList, hcs]; omega), List.take_take, Nat.min_eq_left (by omega), ← htake, List.take_take, Nat.min_eq_left hle]
  have h8 : (cur.toList.take ((i + 1) * d.sz) ++ news ++ cur.toList.drop ((i + 1) * d.sz + news.length)).drop (i * d.sz + seg.length) = news ++ cur.toList.drop ((i + 1) * d.sz + news.length) := by
   rw [hseg, ← hisz, List.append_assoc]
   exact List.drop_left' (by rw [List.length_take, Array.length_toList, hcs]; omega)
  rw [h7, h8, List.append_assoc, ← List.append_assoc seg, ← List.append_assoc]
  exact List.take_left' (by rw [List.length_append, List.length_append, List.length_take, hnl, hseg]; omega)
 ·have hmv : ∀ p q, d.M W base (fun k' => ok k' ∧ some k' ≠ (Value.slice (some ⟨g, 0, none⟩) n c).ownBlock) p q → d.M ((W.setCells g ((i + 1) * d.sz) news).setCells g (i * d.sz) seg) base (fun k' => ok k' ∧ some k' ≠ (Value.slice (some ⟨g, 0, none⟩) (n + 1) c).ownBlock) p q := fun p q hp =>
   d.M_mono (fun k' hk' => ⟨hk'.1, by rw [← hgo]; rw [← hgo] at hk'; exact hk'.2⟩) (d.M_move (fun k' hk' => hfar k' (fun he => hk'.2 (by rw [← hgo, he]))) hp)
  subst hnews
  refine Kd.reps_append ((Kd.reps_take hr (by omega)).imp_ hmv) ?_
  refine Kd.reps_append (ps := [x]) (qs := xs.drop i) ⟨by simpa using hseg, fun j p hj => ?_⟩ ((Kd.reps_drop hr).imp_ hmv)
  have hj0 : j = 0 := by
   have := (List.getElem?_eq_some_iff.1 hj).1
   simpa using this
  subst hj0
  obtain rfl : x = p := by simpa using hj
  rw [Nat.zero_mul, List.drop_zero, List.take_of_length_le (by omega)]
  exact hmv _ _ hM
end
end Go.Proofs.Ytbjlldjkkdiblaa.Ins

namespace Go.Proofs.Ytbjlldjkkdiblaa.Man
open Go.RowKit Go.Proofs.YtbjlldjkkdiblaaW.PrintWords Go.Proofs.YtbjlldjkkdiblaaW.PrintLast Go.Proofs.YtbjlldjkkdiblaaW.PrintMore
set_option linter.unusedVariables false
section
variable {P : Program}
theorem cycle_len (zc : Array Value) (n : Nat) (h : 0 < n) : (Builtin.zeroCells zc n).toList.length = n * zc.size := by
 simp [Builtin.zeroCells]
/-- 'clear(s)' of what lies behind a row of the call's own, in its spare room: the row stays. -/
theorem R_clear_run {α : Type} (d : Kd α) {W : World} (base : Nat) (t ty e : TypeId) (z : Value) (ht : P.underlying t = some (.slice e)) (hz : ∀ w, (zeroValue e).run P w = .ok z w) (hzs : z.cells.size = d.sz) (hz1 : ∀ u ∈ z.cells.toList, u.oneCell' = true)
  {g n c m : Nat} {xs : List α} {ok : Nat → Prop} (HO : d.R e W base ok (.slice (some ⟨g, 0, none⟩) n c) xs) (hm : n + m ≤ c) (hm0 : 0 < m) (c2 : Nat) :
  ∃ w1, (Builtin.clear_ #[t] ty #[.slice (some ⟨g, n * d.sz, none⟩) m c2]).run P W = .ok (.tuple #[]) w1 ∧ d.R e w1 base ok (.slice (some ⟨g, 0, none⟩) n c) xs ∧ W.grownBy w1 (some g) := by
 obtain ⟨hn, hnc, _⟩ := Kd.R_reads' HO
 obtain ⟨hok, inner, hown, hr⟩ := HO
 have hin : inner.length = n * d.sz := by rw [hr.1, hn]
 rcases hown.2 with ⟨hv, _⟩ | ⟨g', cap', cur, hv, hb, hh, _, hcm, hcs, htake⟩
 ·cases hv
 injection hv with ha _ hc
 injection ha with ha
 injection ha with hg
 subst hg; subst hc
 rw [← hn] at htake
 obtain ⟨news, hnews⟩ : ∃ news, news = (Builtin.zeroCells z.cells m).toList := ⟨_, rfl⟩
 have hnl : news.length = m * d.sz := by rw [hnews, cycle_len _ _ hm0, hzs]
 have hone : ∀ u ∈ news, u.oneCell' = true := by
  intro u hu
  rw [hnews] at hu
  have hp : 0 < z.cells.size := by
   rcases Nat.eq_zero_or_pos z.cells.size with h | h
   ·simp [Builtin.zeroCells, h] at hu
   ·exact h
  simp only [Builtin.zeroCells, Array.toList_map, List.mem_map] at hu
  obtain ⟨i, _, rfl⟩ := hu
  have hi := Nat.mod_lt i hp
  rw [getElem!_pos z.cells _ hi]
  exact hz1 _ (by simp)
 have hnm : (n + m) * d.sz ≤ c * d.sz := Nat.mul_le_mul_right _ hm
 have hnm2 : (n + m) * d.sz = n * d.sz + m * d.sz := Nat.add_mul _ _ _
 have hfit : n * d.sz + news.length ≤ cur.size := by omega
 have hst := run_storeCells_cells (P := P) g (n * d.sz) news 0 W (fun j hj => by rw [cell_of_row W g _ cur e (0, 0) hh]; simp; omega) (fun j _ => blk_frozen hh _) hone
 simp only [Nat.add_zero] at hst
 obtain ⟨cur', h3, h4, h5⟩ := setCells_row news (n * d.sz) W cur hh hfit
 obtain ⟨s1, s2, s3, s4⟩ := setCells_same g news (n * d.sz) W
 have hfar : ∀ k', k' ≠ g → (W.setCells g (n * d.sz) news).heap[k']? = W.heap[k']? := fun k' hk' => setCells_far news _ k' hk'
 refine ⟨_, ?_, ⟨hok, inner, ⟨by rw [hin, hn], .inr ⟨g, c, cur', by rw [hn], hb, h3, by omega, hcm, by rw [h4, hcs], ?_⟩⟩, ?_⟩, ⟨s1, s2, s3, by rw [s4]; exact Nat.le_refl _, fun k' _ hk' => hfar k' (fun he => hk' (by rw [he]))⟩⟩
 ·obtain ⟨k, rfl⟩ : ∃ k, m = k + 1 := ⟨m - 1, by omega⟩
  have hzc : (Builtin.zeroCells z.cells (k + 1)).toList = news := hnews.symm
  simp [Builtin.clear_, run_underlying ht, hz, hzc, hst]
 ·rw [← hn, h5, List.append_assoc, htake]
  exact List.take_left' hin
 ·exact hr.imp_ (fun p q hp => d.M_move (fun k' hk' => hfar k' (fun he => hk'.2 (by simp [Value.ownBlock, he]))) hp)
end
end Go.Proofs.Ytbjlldjkkdiblaa.Man

namespace Go.Proofs.Ytbjlldjkkdiblaa.G
open Go.RowKit Go.Proofs.YtbjlldjkkdiblaaW.PrintWords Go.Proofs.YtbjlldjkkdiblaaW.PrintLast Go.Proofs.YtbjlldjkkdiblaaW.PrintMore Go.Proofs.Ytbjlldjkkdiblaa.Sh
attribute [local go_sem] max2_int min2_int max_two min_two max_three min_three max_four min_four
set_option linter.unusedVariables false
set_option linter.unusedSimpArgs false
open Go.Proofs.Ytbjlldjkkdiblaa.Man
open Go.Shelf Go.Lib Go.Proofs.Ytbjlldjkkdiblaa.Ins
set_option maxHeartbeats 4000000 in
set_option maxRecDepth 100000 in
theorem ins_shift (b n c i vb vc : Nat) (w : World) (hi : i < n) (hroom : n + 1 ≤ c) (hc63 : c ≤ 9223372036854775807) (hvb : vb ≠ b)
  (W1 W2 : World) (v1 v2 : Value)
  (hcp1 : ∀ ty dc sc, (Builtin.copy_ #[23, 23] ty #[.slice (some ⟨b, (i + 1) * 2, none⟩) (n - i) dc, .slice (some ⟨b, i * 2, none⟩) (n + 1 - i) sc]).run Try.prog w.drew = .ok v1 W1)
  (hcp2 : ∀ ty dc, (Builtin.copy_ #[23, 23] ty #[.slice (some ⟨b, i * 2, none⟩) (n + 1 - i) dc, .slice (some ⟨vb, 0, none⟩) 1 vc]).run Try.prog W1 = .ok v2 W2)
  (hov : ∀ lb cb, (callFunc 66 #[.slice (some ⟨vb, 0, none⟩) 1 vc, .slice (some ⟨b, (i + 1) * 2, none⟩) lb cb]).run Try.prog w = .ok (.value (.bool false)) w) :
  Calls Try.prog 51 #[.slice (some ⟨b, 0, none⟩) n c, .int .i64 i, .slice (some ⟨vb, 0, none⟩) 1 vc] w fun e w' =>
   e = .returned (.slice (some ⟨b, 0, none⟩) (n + 1) c) ∧ w' = W2 := by
 have hz2 : ¬ ((i : Int) = (n : Int)) := by omega
 have mixed : Try.prog.follows .mixedOrders = true := by kernel_rfl
 have hw1 : IntKind.i64.wrap ((i : Int) + 1) = (i : Int) + 1 := by rw [IntKind.wrap_i64]; omega
 have hw2 : IntKind.i64.wrap ((n : Int) + 1) = (n : Int) + 1 := by rw [IntKind.wrap_i64]; omega
 have hb1 : (0 : Int) ≤ (i : Int) + 1 := by omega
 have hb0 : (0 : Int) ≤ (i : Int) := by omega
 have hin : i ≤ n := by omega
 have hin2 : (i : Int) ≤ (n : Int) := by omega
 have htn : ((i : Int) + 1).toNat = i + 1 := by omega
 have hb2 : ¬ (c = i + 1) := by omega
 have hb3 : (i : Int) ≤ (n : Int) + 1 := by omega
 have hb4 : ¬ (c = i) := by omega
 have hb5 : (i : Int) + 1 ≤ (n : Int) + 1 := by omega
 have hb6 : (n : Int) + 1 ≤ (c : Int) := by omega
 have hb7 : (0 : Int) ≤ (n : Int) + 1 := by omega
 have hb8 : (n : Int) ≤ (c : Int) := by omega
 have hb9 : ¬ ((n : Int) + 1 > (c : Int)) := by omega
 go_enter Try.func51, Try.ntmps51
 go_wp2_with (simp only [hov])
 go_region_law_o (refine step_copy_runI rfl _ _ 23 23 rfl _ _ (by simp [Act.eval, Act.put]) (by simp [Act.eval, Act.put]) (hcp1 _ _ _) ?_)
 go_wp2_with (at_builtin; refine wpList_copy_runI _ rfl _ _ 23 23 rfl _ _ rfl rfl (hcp2 _ _) ?_)
 go_ret
 exact ⟨rfl, rfl⟩
set_option maxHeartbeats 4000000 in
set_option maxRecDepth 100000 in
theorem ins_grow (b n c i vb vc g G : Nat) (w : World) (hi : i < n) (hnc : n ≤ c) (hroom : c < n + 1) (hc63 : n + 1 ≤ 9223372036854775807) (hGn : n + 1 ≤ G) (hG63 : G ≤ 9223372036854775807)
  (W1 W2 W3 : World) (v2 v3 : Value)
  (hrz : ∀ ty, (Builtin.append_ #[23, 3] ty #[.slice (some ⟨b, 0, none⟩) i c, .int .i64 ((n : Int) + 1 - (i : Int))]).run Try.prog w = .ok (.slice (some ⟨g, 0, none⟩) (n + 1) G) W1)
  (hcpA : ∀ ty dc, (Builtin.copy_ #[23, 23] ty #[.slice (some ⟨g, i * 2, none⟩) (n + 1 - i) dc, .slice (some ⟨vb, 0, none⟩) 1 vc]).run Try.prog W1 = .ok v2 W2)
  (hcpB : ∀ ty dc sc, (Builtin.copy_ #[23, 23] ty #[.slice (some ⟨g, (i + 1) * 2, none⟩) (n - i) dc, .slice (some ⟨b, i * 2, none⟩) (n - i) sc]).run Try.prog W2.drew = .ok v3 W3) :
  Calls Try.prog 51 #[.slice (some ⟨b, 0, none⟩) n c, .int .i64 i, .slice (some ⟨vb, 0, none⟩) 1 vc] w fun e w' =>
   e = .returned (.slice (some ⟨g, 0, none⟩) (n + 1) G) ∧ w' = W3 := by
 have hz2 : ¬ ((i : Int) = (n : Int)) := by omega
 have hz3 : (c : Int) < (n : Int) + 1 := by omega
 have mixed : Try.prog.follows .mixedOrders = true := by kernel_rfl
 have hw1 : IntKind.i64.wrap ((i : Int) + 1) = (i : Int) + 1 := by rw [IntKind.wrap_i64]; omega
 have hw2 : IntKind.i64.wrap ((n : Int) + 1) = (n : Int) + 1 := by rw [IntKind.wrap_i64]; omega
 have hw3 : IntKind.i64.wrap ((n : Int) + 1 - (i : Int)) = (n : Int) + 1 - (i : Int) := by rw [IntKind.wrap_i64]; omega
 have hb1 : (0 : Int) ≤ (i : Int) + 1 := by omega
 have hb0 : (0 : Int) ≤ (i : Int) := by omega
 have hin : i ≤ n := by omega
 have hin2 : (i : Int) ≤ (n : Int) := by omega
 have hin3 : (i : Int) ≤ (c : Int) := by omega
 have htn : ((i : Int) + 1).toNat = i + 1 := by omega
 have hb3 : (i : Int) ≤ (n : Int) + 1 := by omega
 have hci : ¬ (c = i) := by omega
 have hGi : ¬ (G = i) := by omega
 have hGi1 : ¬ (G = i + 1) := by omega
 have hb5 : (i : Int) + 1 ≤ (n : Int) + 1 := by omega
 have hb7 : (0 : Int) ≤ (n : Int) + 1 := by omega
 go_enter Try.func51, Try.ntmps51
 go_wp2_with (first
  | (at_builtin; refine Lib.wpList_append_run _ rfl _ _ _ _ rfl _ _ rfl rfl _ _ (hrz _) ?_)
  | (at_builtin; refine wpList_copy_runI _ rfl _ _ 23 23 rfl _ _ rfl rfl (hcpA _ _) ?_))
 go_region_law_o (refine step_copy_runI rfl _ _ 23 23 rfl (.slice (some ⟨g, (i + 1) * 2, none⟩) (n - i) (G - (i + 1))) (.slice (some ⟨b, i * 2, none⟩) (n - i) (c - i)) (by simp [Act.eval, Act.put]) (by simp [Act.eval, Act.put]) (hcpB _ _ _) ?_)
 go_wp2
 go_ret
 exact ⟨rfl, rfl⟩
/-- What is told of a row of one element, as cells. -/
theorem one_cells {w : World} {base : Nat} {ok : Nat → Prop} {vb vc : Nat} {x : S49} (HV : Kd.R k49 49 w base ok (.slice (some ⟨vb, 0, none⟩) [x].length vc) [x]) :
  ∃ cur : Array Value, w.heap[vb]? = some (.cells cur 49 (0, 0)) ∧ 2 ≤ cur.size ∧ (∀ j v, ([.int .i64 x.f0, .string x.f1] : List Value)[j]? = some v → w.cell? ⟨vb, j, none⟩ = some v) := by
 obtain ⟨_, seg, hown, hr⟩ := HV
 rcases hown.2 with ⟨hv, _⟩ | ⟨g', cap', cur, hv, hb, hh, hle, hcm, hcs, htake⟩
 ·cases hv
 injection hv with ha _ hc
 injection ha with ha
 injection ha with hg
 subst hg; subst hc
 have hsz : k49.sz = 2 := rfl
 have hM := k49_openM (hr.2 0 x rfl)
 rw [Nat.zero_mul, List.drop_zero, List.take_of_length_le (by rw [hr.1]; simp)] at hM
 rw [hM, hsz] at htake
 rw [hsz] at hcs
 have h2 : 2 ≤ cur.size := by rw [hcs]; have : 1 ≤ vc := hle; omega
 refine ⟨cur, hh, h2, fun j v hj => ?_⟩
 rw [cell_of_row w vb _ cur 49 (0, 0) hh, ← Array.getElem?_toList]
 have hj2 : j < 2 := (List.getElem?_eq_some_iff.1 hj).1
 rw [← hj, ← htake, List.getElem?_take, if_pos (by simpa using hj2)]
set_option maxHeartbeats 4000000 in
theorem ins_shift_R (w : World) (base : Nat) (okP okV : Nat → Prop) (g n c i vb vc : Nat) (xs : List S49) (x : S49) (hi : i < n) (hroom : n + 1 ≤ c) (hc63 : c ≤ 9223372036854775807) (hvb : vb ≠ g)
  (HO : Kd.R k49 49 w base okP (.slice (some ⟨g, 0, none⟩) n c) xs) (HV : Kd.R k49 49 w base okV (.slice (some ⟨vb, 0, none⟩) [x].length vc) [x]) :
  Calls Try.prog 51 #[.slice (some ⟨g, 0, none⟩) n c, .int .i64 i, .slice (some ⟨vb, 0, none⟩) 1 vc] w fun e w' =>
   e = .returned (.slice (some ⟨g, 0, none⟩) (n + 1) c) ∧ Kd.R k49 49 w' base okP (.slice (some ⟨g, 0, none⟩) (n + 1) c) (xs.take i ++ x :: xs.drop i) ∧ w.grownBy w' (some g) := by
 have hsz : k49.sz = 2 := rfl
 obtain ⟨cv, hcv, hcv2, hvs⟩ := one_cells HV
 obtain ⟨inner, hil, hin, hsp, hfz, h1c, hR, hG⟩ := R_insert_shift k49 base 49 (Kd.R_drew HO) (Nat.le_of_lt hi) hroom [.int .i64 x.f0, .string x.f1] rfl (k49_mkM _ _ _ x)
 rw [hsz] at hil hsp hR hG
 have hu : Try.prog.underlying 23 = some (.slice 49) := Try.underlying23
 have hss : (Try.prog.info? 49).map (·.size) = some 2 := by kernel_rfl
 have hdl : (inner.drop (i * 2)).length = (n - i) * 2 := by rw [List.length_drop, hil, Nat.sub_mul]
 have hb1 : (n - i) * 2 + (i + 1) * 2 = n * 2 + 2 := by omega
 obtain ⟨cur, hcur, hcurs⟩ : ∃ cur : Array Value, w.heap[g]? = some (.cells cur 49 (0, 0)) ∧ cur.size ≠ 0 := by
  obtain ⟨_, seg, hown, hr⟩ := HO
  rcases hown.2 with ⟨hv, _⟩ | ⟨g', cap', cur, hv, hb, hh, hle, hcm, hcs, htake⟩
  ·cases hv
  injection hv with ha _ hc
  injection ha with ha
  injection ha with hg
  subst hg; subst hc
  exact ⟨cur, hh, by rw [hcs, hsz]; omega⟩
 have hov : ∀ lb cb, (callFunc 66 #[.slice (some ⟨vb, 0, none⟩) 1 vc, .slice (some ⟨g, (i + 1) * 2, none⟩) lb cb]).run Try.prog w = .ok (.value (.bool false)) w := fun lb cb => by
  rw [run_callFunc_extern Try.func66 (by kernel_rfl) (by kernel_rfl) (by kernel_rfl) (e := Extern.SlicesOverlaps.overlaps #[23, 23] #[4]) (by kernel_rfl),
   Lib.run_overlaps_apart w 23 4 49 hu 2 Try.sizeOf49 ⟨vb, 0, none⟩ ⟨g, (i + 1) * 2, none⟩ 1 vc lb cb hvb 49 49 cv.size cur.size (by unfold World.shape?; rw [hcv]) (by unfold World.shape?; rw [hcur]) hcurs (blk_frozen hcv 0) (blk_frozen hcv _)]
  rfl
 obtain ⟨W1, hW1⟩ : ∃ W1, W1 = w.drew.setCells g ((i + 1) * 2) (inner.drop (i * 2)) := ⟨_, rfl⟩
 have hcp1 : ∀ ty dc sc, (Builtin.copy_ #[23, 23] ty #[.slice (some ⟨g, (i + 1) * 2, none⟩) (n - i) dc, .slice (some ⟨g, i * 2, none⟩) (n + 1 - i) sc]).run Try.prog w.drew = .ok (goInt (Nat.min (n + 1 - i) (n - i))) W1 := fun ty dc sc => by
  rw [hW1]
  refine run_copy_cellsN w.drew 23 23 ty 49 2 g ((i + 1) * 2) (n - i) dc ⟨g, i * 2, none⟩ (n + 1 - i) sc (inner.drop (i * 2)) hu hss (by rw [hdl, show Nat.min (n + 1 - i) (n - i) = n - i from Nat.min_eq_right (by omega)]) ?_ (fun j hj => hsp _ (by omega)) (fun j _ => hfz _) (fun v hv => h1c v (List.mem_of_mem_drop hv))
  intro j v hj
  rw [Addr.add_lit]
  exact hin _ v (by rwa [List.getElem?_drop] at hj)
 have hcp2 : ∀ ty dc, (Builtin.copy_ #[23, 23] ty #[.slice (some ⟨g, i * 2, none⟩) (n + 1 - i) dc, .slice (some ⟨vb, 0, none⟩) 1 vc]).run Try.prog W1 = .ok (goInt (Nat.min 1 (n + 1 - i))) (W1.setCells g (i * 2) [.int .i64 x.f0, .string x.f1]) := fun ty dc => by
  refine run_copy_cellsN W1 23 23 ty 49 2 g (i * 2) (n + 1 - i) dc ⟨vb, 0, none⟩ 1 vc [.int .i64 x.f0, .string x.f1] hu hss (by rw [show Nat.min 1 (n + 1 - i) = 1 from Nat.min_eq_left (by omega)]; rfl) ?_ (fun j hj => ?_) (fun j _ => by rw [hW1, World.frozen?_setCells]; exact hfz _) (by simp [Value.oneCell'])
  ·intro j v hj
   rw [Addr.add_lit, hW1, World.cell?_setCells_out g _ _ _ _ (fun h _ => absurd h hvb)]
   rw [Nat.zero_add]
   exact hvs j v hj
  ·rw [hW1]
   have hj2 : j < 2 := hj
   exact isSome_setCells g _ _ _ (fun j hj => hsp _ (by omega)) _ (hsp _ (by omega))
 rw [← hW1] at hR hG
 refine (ins_shift g n c i vb vc w hi hroom hc63 hvb W1 _ _ _ hcp1 hcp2 hov).mono ?_
 rintro e w' ⟨rfl, rfl⟩
 exact ⟨rfl, hR, World.grownBy.trans (show w.grownBy w.drew (some g) from ⟨rfl, rfl, rfl, Nat.le_refl _, fun _ _ _ => rfl⟩) hG⟩
set_option maxHeartbeats 4000000 in
theorem ins_grow_R (w : World) (base : Nat) (okP okV : Nat → Prop) (b n c i vb vc : Nat) (xs : List S49) (x : S49) (hi : i < n) (hnc : n ≤ c) (hroom : c < n + 1) (hbig : (n + 1) * 24 ≤ 140737488355328) (hbase : base ≤ w.heap.size)
  (HO : Kd.R k49 49 w base okP (.slice (some ⟨b, 0, none⟩) n c) xs) (HV : Kd.R k49 49 w base okV (.slice (some ⟨vb, 0, none⟩) [x].length vc) [x]) :
  Calls Try.prog 51 #[.slice (some ⟨b, 0, none⟩) n c, .int .i64 i, .slice (some ⟨vb, 0, none⟩) 1 vc] w fun e w' =>
   ∃ v, e = .returned v ∧ Kd.R k49 49 w' base (fun k => w.heap.size ≤ k) v (xs.take i ++ x :: xs.drop i) ∧ Below w.heap.size w w' := by
 have hsz : k49.sz = 2 := rfl
 obtain ⟨cv, hcv, hcv2, hvs⟩ := one_cells HV
 have hxn := (Kd.R_reads' HO).1
 obtain ⟨inner, hil, hin, h1c, hr⟩ : ∃ inner : List Value, inner.length = n * 2 ∧ (∀ j v, inner[j]? = some v → w.cell? ⟨b, j, none⟩ = some v) ∧ (∀ v ∈ inner, v.oneCell' = true) ∧ Reps (fun p q => q = [.int .i64 p.f0, .string p.f1]) 2 xs inner := by
  obtain ⟨_, inner, hown, hr⟩ := HO
  have hr2 : Reps (fun (p : S49) q => q = [.int .i64 p.f0, .string p.f1]) 2 xs inner := hr.imp_ (fun p q hp => k49_openM hp)
  have hil : inner.length = n * 2 := by rw [hr2.1, hxn]
  rcases hown.2 with ⟨hv, _⟩ | ⟨g', cap', cur, hv, hb, hh, hle, hcm, hcs, htake⟩
  ·cases hv
  injection hv with ha _ hc
  injection ha with ha
  injection ha with hg
  subst hg; subst hc
  rw [hsz, ← hxn] at htake
  refine ⟨inner, hil, fun j v hj => ?_, fun u hu => ?_, hr2⟩
  ·have hjl : j < inner.length := (List.getElem?_eq_some_iff.1 hj).1
   rw [cell_of_row w b _ cur 49 (0, 0) hh, ← Array.getElem?_toList, ← hj, ← htake, List.getElem?_take, if_pos (by omega)]
  ·obtain ⟨q, hq, rfl⟩ := List.mem_iff_getElem.1 hu
   have hql : q / 2 < xs.length := by omega
   have h2 := hr2.2 (q / 2) _ (List.getElem?_eq_getElem hql)
   have hm : inner[q] ∈ (inner.drop (q / 2 * 2)).take 2 := by
    rw [List.mem_iff_getElem?]
    refine ⟨q % 2, ?_⟩
    rw [List.getElem?_take, if_pos (Nat.mod_lt _ (by omega)), List.getElem?_drop, Nat.mul_comm, Nat.div_add_mod, List.getElem?_eq_getElem hq]
   rw [h2] at hm
   simp at hm
   rcases hm with h | h <;> rw [h] <;> rfl
 have hu : Try.prog.underlying 23 = some (.slice 49) := Try.underlying23
 have hss : (Try.prog.info? 49).map (·.size) = some 2 := by kernel_rfl
 obtain ⟨i0, hi0, hz0, hzs, hzb⟩ := info_parts (P := Try.prog) (e := 49) (z := .agg #[.int .i64 0, .string ⟨#[]⟩]) (size := 2) (bytes := 24) (by kernel_rfl)
 have hold : (Builtin.firstCells i0.size i (.slice (some ⟨b, 0, none⟩) i c)).run Try.prog w.drew = .ok (inner.take (i * 2)).toArray w.drew := by
  rw [hzs]
  exact run_firstCells_some w.drew 2 i ⟨b, 0, none⟩ i c (inner.take (i * 2)) (by rw [List.length_take]; omega) (fun j v hj => by
   rw [Addr.add_lit, Nat.zero_add]
   rw [List.getElem?_take] at hj
   split at hj
   ·exact hin j v hj
   ·cases hj)
 have hik : i + (n + 1 - i) = n + 1 := by omega
 have hkk : (n : Int) + 1 - (i : Int) = ((n + 1 - i : Nat) : Int) := by omega
 obtain ⟨G, hGe⟩ : ∃ G, G = grownCap w (n + 1) c 49 := ⟨_, rfl⟩
 obtain ⟨ROW, hROW⟩ : ∃ ROW : Array Value, ROW = (inner.take (i * 2)).toArray ++ Builtin.zeroCells (Value.agg #[.int .i64 0, .string ⟨#[]⟩]).cells (n + 1 - i) ++ Builtin.zeroCells (Value.agg #[.int .i64 0, .string ⟨#[]⟩]).cells (G - (n + 1)) := ⟨_, rfl⟩
 obtain ⟨W1, hW1⟩ : ∃ W1, W1 = w.drew.alloc (.cells ROW 49) := ⟨_, rfl⟩
 have hrz : ∀ ty, (Builtin.append_ #[23, 3] ty #[.slice (some ⟨b, 0, none⟩) i c, .int .i64 ((n : Int) + 1 - (i : Int))]).run Try.prog w = .ok (.slice (some ⟨w.heap.size, 0, none⟩) (n + 1) G) W1 := fun ty => by
  have h := Lib.run_append_grow_zeros w 23 3 ty 49 i0 _ .i64 .i64 hu Try.underlying3 hi0 hz0 (some ⟨b, 0, none⟩) i c (inner.take (i * 2)) hold (n + 1 - i) (by omega) (by omega) (by omega) (by omega) (by rw [hzb]; omega) (by rw [hzb, hik]; exact growslice_fits hroom hbig)
  rw [hik, ← hGe, ← hROW, ← hW1] at h
  rw [hkk]
  exact h
 have hGn : n + 1 ≤ G := by rw [hGe]; exact grownCap_ge w _ _ _
 have hGm : G ≤ maxLen := by rw [hGe]; exact grownCap_le_maxLen w (n + 1) c 49 (by unfold maxLen; omega)
 have hG63 : G ≤ 9223372036854775807 := by unfold maxLen at hGm; omega
 have hRs : ROW.size = G * 2 := by
  rw [hROW]
  simp [Builtin.zeroCells, Value.cells]
  omega
 have hRt : ROW.toList.take (i * 2) = inner.take (i * 2) := by
  rw [hROW, Array.toList_append, Array.toList_append, List.append_assoc]
  exact List.take_left' (by simp; omega)
 have hh1 : W1.heap[w.heap.size]? = some (.cells ROW 49 (0, 0)) := by rw [hW1]; exact blk_new w.drew _
 have hbw : b < w.heap.size := block_lt_of_cell (hin 0 _ (List.getElem?_eq_getElem (by omega)))
 have hvw : vb < w.heap.size := blk_lt hcv
 clear hkk hik hold hROW hGe
 have hcpA : ∀ ty dc, (Builtin.copy_ #[23, 23] ty #[.slice (some ⟨w.heap.size, i * 2, none⟩) (n + 1 - i) dc, .slice (some ⟨vb, 0, none⟩) 1 vc]).run Try.prog W1 = .ok (goInt (Nat.min 1 (n + 1 - i))) (W1.setCells w.heap.size (i * 2) [.int .i64 x.f0, .string x.f1]) := fun ty dc => by
  refine run_copy_cellsN W1 23 23 ty 49 2 w.heap.size (i * 2) (n + 1 - i) dc ⟨vb, 0, none⟩ 1 vc [.int .i64 x.f0, .string x.f1] hu hss (by rw [show Nat.min 1 (n + 1 - i) = 1 from Nat.min_eq_left (by omega)]; rfl) ?_ (fun j hj => ?_) (fun j _ => blk_frozen hh1 _) (by simp [Value.oneCell'])
  ·intro j v hj
   rw [Addr.add_lit, Nat.zero_add, hW1, World.cell?_alloc_past (w := w.drew) _ vb j hvw]
   exact hvs j v hj
  ·have hj2 : j < 2 := hj
   rw [blk_cell hh1, Array.getElem?_eq_getElem (by omega)]; rfl
 obtain ⟨cur1, k3, k4, k5⟩ := setCells_row [.int .i64 x.f0, .string x.f1] (i * 2) W1 ROW hh1 (by simp; omega)
 obtain ⟨W2, hW2⟩ : ∃ W2, W2 = W1.setCells w.heap.size (i * 2) [.int .i64 x.f0, .string x.f1] := ⟨_, rfl⟩
 obtain ⟨news, hnews⟩ : ∃ news, news = inner.drop (i * 2) := ⟨_, rfl⟩
 have hnl : news.length = (n - i) * 2 := by rw [hnews, List.length_drop, hil, Nat.sub_mul]
 have hcpB : ∀ ty dc sc, (Builtin.copy_ #[23, 23] ty #[.slice (some ⟨w.heap.size, (i + 1) * 2, none⟩) (n - i) dc, .slice (some ⟨b, i * 2, none⟩) (n - i) sc]).run Try.prog W2.drew = .ok (goInt (Nat.min (n - i) (n - i))) (W2.drew.setCells w.heap.size ((i + 1) * 2) news) := fun ty dc sc => by
  have k3' : W2.drew.heap[w.heap.size]? = some (.cells cur1 49 (0, 0)) := by rw [hW2]; exact k3
  refine run_copy_cellsN W2.drew 23 23 ty 49 2 w.heap.size ((i + 1) * 2) (n - i) dc ⟨b, i * 2, none⟩ (n - i) sc news hu hss (by rw [hnl, show Nat.min (n - i) (n - i) = n - i from Nat.min_self _]) ?_ (fun j hj => ?_) (fun j _ => blk_frozen k3' _) (fun v hv => h1c v (by rw [hnews] at hv; exact List.mem_of_mem_drop hv))
  ·intro j v hj
   rw [Addr.add_lit]
   show W2.cell? _ = _
   rw [hW2, World.cell?_setCells_out w.heap.size _ _ _ _ (fun h _ => absurd h (Nat.ne_of_lt hbw)), hW1, World.cell?_alloc_past (w := w.drew) _ b _ hbw]
   exact hin _ v (by rw [hnews, List.getElem?_drop] at hj; exact hj)
  ·rw [blk_cell k3', Array.getElem?_eq_getElem (by omega)]; rfl
 rw [← hW2] at hcpA k3
 obtain ⟨cur2, h3, h4, h5⟩ := setCells_row news ((i + 1) * 2) W2.drew cur1 k3 (by omega)
 obtain ⟨s1, s2, s3, s4⟩ := setCells_same w.heap.size [.int .i64 x.f0, .string x.f1] (i * 2) W1
 obtain ⟨t1, t2, t3, t4⟩ := setCells_same w.heap.size news ((i + 1) * 2) W2.drew
 refine (ins_grow b n c i vb vc w.heap.size G w hi hnc hroom (by omega) hGn hG63 W1 W2 _ _ _ hrz hcpA hcpB).mono ?_
 rintro e w' ⟨rfl, rfl⟩
 refine ⟨_, rfl, ?_, ?_⟩
 ·have hel : (xs.take i ++ x :: xs.drop i).length = n + 1 := by simp [← hxn]; omega
  refine ⟨fun k' hk' => by simp [Value.ownBlock] at hk'; omega, inner.take (i * 2) ++ ([.int .i64 x.f0, .string x.f1] ++ news), ⟨?_, .inr ⟨w.heap.size, G, cur2, by rw [hel], hbase, h3, by rw [hel]; exact hGn, hGm, by rw [h4, k4, hRs, hsz], ?_⟩⟩, ?_⟩
  ·rw [hel, hsz]
   simp [hnl, hil]
   omega
  ·rw [hel, hsz, h5, k5]
   have h7 : ∀ D : List Value, (ROW.toList.take (i * 2) ++ ([.int .i64 x.f0, .string x.f1] : List Value) ++ D).take ((i + 1) * 2) = inner.take (i * 2) ++ ([.int .i64 x.f0, .string x.f1] : List Value) := fun D => by
    rw [hRt]
    exact List.take_left' (by simp [hil]; omega)
   rw [h7, List.take_left' (by simp [hnl, hil]; omega), List.append_assoc]
  ·have hmv : ∀ (p : S49) q, q = [.int .i64 p.f0, .string p.f1] → k49.M (W2.drew.setCells w.heap.size ((i + 1) * 2) news) base (fun k => w.heap.size ≤ k ∧ some k ≠ (Value.slice (some ⟨w.heap.size, 0, none⟩) (n + 1) G).ownBlock) p q := fun p q hq => by rw [hq]; exact k49_mkM _ _ _ p
   subst hnews
   rw [hsz]
   refine Kd.reps_append ((Kd.reps_take hr (by omega)).imp_ hmv) ?_
   refine Kd.reps_append (ps := [x]) (qs := xs.drop i) ⟨rfl, fun j p hj => ?_⟩ ((Kd.reps_drop hr).imp_ hmv)
   have hj0 : j = 0 := by
    have := (List.getElem?_eq_some_iff.1 hj).1
    simpa using this
   subst hj0
   obtain rfl : x = p := by simpa using hj
   exact hmv _ _ rfl
 ·have b1 : Below w.heap.size w W1 := by rw [hW1]; exact below_alloc (below_drew1 (Below.refl _ _)) _
  have g2 : W1.grownBy W2 (some w.heap.size) := ⟨by rw [hW2, s1], by rw [hW2, s2], by rw [hW2, s3], by rw [hW2, s4]; exact Nat.le_refl _, fun k' _ hk' => by rw [hW2]; exact setCells_far _ _ k' (fun he => hk' (by rw [he]))⟩
  have g3 : W2.drew.grownBy (W2.drew.setCells w.heap.size ((i + 1) * 2) news) (some w.heap.size) := ⟨by rw [t1], by rw [t2], by rw [t3], by rw [t4]; exact Nat.le_refl _, fun k' _ hk' => setCells_far _ _ k' (fun he => hk' (by rw [he]))⟩
  have b2 := b1.grown g2 b1.size (fun k hk => by injection hk with hk; omega)
  have b3 := below_drew1 b2
  exact b3.grown g3 b3.size (fun k hk => by injection hk with hk; omega)
set_option maxHeartbeats 4000000 in
set_option maxRecDepth 100000 in
theorem ins_end_R (w0 w : World) (okP okV : Nat → Prop) (v : Value) (vb vc : Nat) (xs : List S49) (x : S49) (hB : Below w0.heap.size w0 w) (hbig : (xs.length + 1) * 24 ≤ 140737488355328)
  (HO : Kd.R k49 49 w w0.heap.size okP v xs) (HV : Kd.R k49 49 w w0.heap.size okV (.slice (some ⟨vb, 0, none⟩) [x].length vc) [x]) :
  Calls Try.prog 51 #[v, .int .i64 (xs.length : Int), .slice (some ⟨vb, 0, none⟩) 1 vc] w fun e w' =>
   ∃ v1, e = .returned v1 ∧ Kd.R k49 49 w' w0.heap.size (fun k => okP k ∨ w.heap.size ≤ k) v1 (xs ++ [x]) ∧ Below w0.heap.size w0 w' ∧ w.grownBy w' v.ownBlock := by
 obtain ⟨A0, c0, rfl⟩ := Kd.R_slice HO
 have hlc := (Kd.R_reads' HO).2.1
 have hC := Aside0.mk (show ReadsRow (k49.K w) 2 w (some ⟨vb, 0, none⟩) 1 [x] from (Kd.R_reads' HV).2.2)
 have HO1 := Aside0.mk (Kd.R_mono HO (ok' := fun k => okP k ∨ w.heap.size ≤ k) (fun _ h => .inl h))
 have HBW := Aside0.mk hB
 have hb1 : (xs.length : Int) ≤ (xs.length : Int) := by omega
 have hb2 : (0 : Int) ≤ (xs.length : Int) := by omega
 have hb3 : (xs.length : Int) ≤ (c0 : Int) := by omega
 have hbg := Aside0.mk hbig
 have hbe : ((xs.length : Int) == (xs.length : Int)) = true := beq_self_eq_true _
 obtain ⟨ob, hob⟩ : ∃ ob, ob = (Value.slice A0 xs.length c0).ownBlock := ⟨_, rfl⟩
 have HOB := Aside0.mk hob
 rw [← hob]
 clear hob
 clear HO HV hB hbig
 by_cases hcn : c0 = xs.length
 ·subst hcn
  go_enter Try.func51, Try.ntmps51
  go_wp2_with (first | ((with_reducible refine gate_builtin (b := .append) (xs := #[.tmp 23, .tmp 24]) rfl ?_); refine Kd.R_append_rows k49 (w0 := w0) w0.heap.size rfl (.tmp 23) (.tmp 24) 23 49 (.agg #[.int .i64 0, .string ⟨#[]⟩]) 24 rfl Try.underlying23 (by kernel_rfl) rfl (by decide) (by decide) _ xs [x] (some ⟨vb, 0, none⟩) 1 vc (fun k => okP k ∨ w.heap.size ≤ k) (fun _ => False) rfl rfl HO1.out hC.out (fun p q hp => by rw [k49_open hp]; exact k49_mkM _ _ _ p) (fun _ h => h.elim) (fun _ h => .inr h) HBW.out HBW.out.size hbg.out ?_; intro v1 w1 hr hb hg hat; have HR := Aside0.mk hr; have HB2 := Aside0.mk hb; have HG2 := Aside0.mk (show w.grownBy w1 ob from by rw [HOB.out]; exact hg); clear hr hb hg hat))
  go_ret
  exact ⟨_, rfl, HR.out, HB2.out, HG2.out⟩
 ·have hcf : (c0 = xs.length) = False := eq_false hcn
  go_enter Try.func51, Try.ntmps51
  go_wp2_with (first | ((with_reducible refine gate_builtin (b := .append) (xs := #[.tmp 23, .tmp 24]) rfl ?_); refine Kd.R_append_rows k49 (w0 := w0) w0.heap.size rfl (.tmp 23) (.tmp 24) 23 49 (.agg #[.int .i64 0, .string ⟨#[]⟩]) 24 rfl Try.underlying23 (by kernel_rfl) rfl (by decide) (by decide) _ xs [x] (some ⟨vb, 0, none⟩) 1 vc (fun k => okP k ∨ w.heap.size ≤ k) (fun _ => False) rfl rfl HO1.out hC.out (fun p q hp => by rw [k49_open hp]; exact k49_mkM _ _ _ p) (fun _ h => h.elim) (fun _ h => .inr h) HBW.out HBW.out.size hbg.out ?_; intro v1 w1 hr hb hg hat; have HR := Aside0.mk hr; have HB2 := Aside0.mk hb; have HG2 := Aside0.mk (show w.grownBy w1 ob from by rw [HOB.out]; exact hg); clear hr hb hg hat))
  go_ret
  exact ⟨_, rfl, HR.out, HB2.out, HG2.out⟩
def slices_Insert_impl_Entry_impl_Entry.f (l0 : List S49) (a1 : Int) (l2 : List S49) : Option (List S49) := if 0 ≤ a1 ∧ a1 ≤ (l0.length : Int) ∧ l2.length = 1 ∧ (l0.length + 1) * 24 ≤ 140737488355328 then some (l0.take a1.toNat ++ l2 ++ l0.drop a1.toNat) else none
set_option maxHeartbeats 4000000 in
theorem slices_Insert_impl_Entry_impl_Entry.calls (P0_ : Nat → Prop) (u9000_ : Value) (l0 : List S49) (a1 : Int) (P2_ : Nat → Prop) (u9001_ : Value) (l2 : List S49) (r : List S49) (w0 w : World) (hB : Below w0.heap.size w0 w) (ho0 : Kd.R k49 49 w w0.heap.size P0_ u9000_ l0) (hp0_2 : ∀ k_, P0_ k_ → ¬ P2_ k_) (ho2 : Kd.R k49 49 w w0.heap.size P2_ u9001_ l2) (hp2_0 : ∀ k_, P2_ k_ → ¬ P0_ k_) (h : slices_Insert_impl_Entry_impl_Entry.f l0 a1 l2 = some r) :
  Calls Try.prog 51 #[u9000_, .int .i64 a1, u9001_] w fun e w' => ∃ v0_ : Value, e = .returned v0_ ∧ Kd.R k49 49 w' w0.heap.size (fun k_ => ((P0_ k_ ∨ P2_ k_) ∨ w.heap.size ≤ k_)) v0_ r ∧ Below w0.heap.size w0 w' ∧ Kept w w' (fun k_ => P0_ k_ ∨ P2_ k_) := by
 unfold slices_Insert_impl_Entry_impl_Entry.f at h
 by_cases c : 0 ≤ a1 ∧ a1 ≤ (l0.length : Int) ∧ l2.length = 1 ∧ (l0.length + 1) * 24 ≤ 140737488355328
 rotate_left
 ·rw [if_neg c] at h; cases h
 rw [if_pos c] at h
 obtain rfl := Option.some.inj h
 clear h
 obtain ⟨c0, c1, c2, c3⟩ := c
 obtain ⟨i, rfl⟩ := Int.eq_ofNat_of_zero_le c0
 obtain ⟨x, rfl⟩ := List.length_eq_one_iff.1 c2
 obtain ⟨vb, vc, rfl, vbb, vbl, vcl, VG⟩ := Kd.R_form ho2 (by simp)
 rw [Int.toNat_natCast]
 by_cases hin : i = l0.length
 ·subst hin
  refine (ins_end_R w0 w P0_ P2_ u9000_ vb vc l0 x hB c3 ho0 ho2).mono ?_
  rintro e w' ⟨v1, rfl, hr, hb, hg⟩
  refine ⟨v1, rfl, ?_, hb, Kept.of_grown hg (Kept.refl _ _) (fun k hk => .inl (.inl (ho0.1 k hk)))⟩
  rw [List.take_length, List.drop_length, List.append_nil]
  exact Kd.R_mono hr (fun k hk => hk.elim (fun h => .inl (.inl h)) .inr)
 ·have hi : i < l0.length := by omega
  obtain ⟨g, cap, rfl, gb, gl, cl, HG⟩ := Kd.R_form ho0 (by omega)
  obtain ⟨_, hlc, hC⟩ := Kd.R_reads' ho0
  have hP0 : P0_ g := ho0.1 g rfl
  have hP2 : P2_ vb := ho2.1 vb rfl
  have hne : vb ≠ g := fun he => hp0_2 g hP0 (he ▸ hP2)
  have el : l0.take i ++ [x] ++ l0.drop i = l0.take i ++ x :: l0.drop i := by simp
  rw [el]
  by_cases hroom : l0.length + 1 ≤ cap
  ·have hcm : cap ≤ 9223372036854775807 := by
    obtain ⟨_, seg, hown, hr⟩ := ho0
    rcases hown.2 with ⟨hv, _⟩ | ⟨g', cap', cur, hv, hb, hh, hle, hcm, hcs, htake⟩
    ·cases hv
    injection hv with ha _ hc
    subst hc
    unfold maxLen at hcm
    omega
   refine (ins_shift_R w w0.heap.size P0_ P2_ g l0.length cap i vb vc l0 x hi hroom hcm hne ho0 ho2).mono ?_
   rintro e w' ⟨rfl, hr, hg⟩
   refine ⟨_, rfl, Kd.R_mono hr (fun k hk => .inl (.inl hk)), hB.grown hg hB.size (fun k hk => by injection hk with hk; subst hk; exact gb), Kept.of_grown hg (Kept.refl _ _) (fun k hk => by injection hk with hk; subst hk; exact .inl (.inl hP0))⟩
  ·refine (ins_grow_R w w0.heap.size P0_ P2_ g l0.length cap i vb vc l0 x hi hlc (by omega) c3 hB.size ho0 ho2).mono ?_
   rintro e w' ⟨v, rfl, hr, hb⟩
   exact ⟨v, rfl, Kd.R_mono hr (fun k hk => .inr hk), below_step hB hb, Kept.of_below hb _⟩
end Go.Proofs.Ytbjlldjkkdiblaa.G

namespace Go.Proofs.Ytbjlldjkkdiblaa.G
open Go.RowKit Go.Proofs.YtbjlldjkkdiblaaW.PrintWords Go.Proofs.YtbjlldjkkdiblaaW.PrintLast Go.Proofs.YtbjlldjkkdiblaaW.PrintMore Go.Proofs.Ytbjlldjkkdiblaa.Sh
attribute [local go_sem] max2_int min2_int max_two min_two max_three min_three max_four min_four
set_option linter.unusedVariables false
set_option linter.unusedSimpArgs false
def impl_Table_with.f (k : Nat) (a0_0 : Int) (l0_1 : List (S49)) (a1_0 : Int) (a1_1 : ByteArray) : Option (Int × (List (S49))) := (impl_copyTable.f a0_0 l0_1).bind fun bt518 => ((impl_Table_place.f k a0_0 l0_1 a1_0 a1_1).bind fun bt523 => ((slices_Insert_impl_Entry_impl_Entry.f bt518.2 bt523.1 (([(⟨a1_0, a1_1⟩ : S49)] : List (S49)))).bind fun t528 => (some (bt518.1, t528))))
theorem impl_Table_with.mono : ∀ a0 a1 a2 a3 k, LeO (impl_Table_with.f k a0 a1 a2 a3) (impl_Table_with.f (k + 1) a0 a1 a2 a3) := by
 intro a0 a1 a2 a3 k
 unfold impl_Table_with.f
 repeat' first | (with_reducible first | exact impl_Table_place.mono _ _ _ _ _ | exact LeO.refl _ | exact LeO.none _ | refine LeO.ite ?_ ?_ | refine LeO.bind ?_ (fun _ => ?_)) | exact impl_Table_place.mono _ _ _ _ _ | exact LeO.none _ | refine LeO.ite ?_ ?_ | refine LeO.bind ?_ (fun _ => ?_)
set_option maxHeartbeats 8000000 in
set_option maxRecDepth 100000 in
theorem impl_Table_with.calls (k : Nat) (a0_0 : Int) (A0_1 : Option Addr) (c0_1 : Nat) (l0_1 : List (S49)) (a1_0 : Int) (a1_1 : ByteArray) (r1 : Int) (r2 : List (S49)) (w : World) (hr0_1 : Kd.C k49 w A0_1 l0_1.length l0_1) (hc0_1 : l0_1.length ≤ c0_1) (h : impl_Table_with.f k a0_0 l0_1 a1_0 a1_1 = some (r1, r2)) :
  Calls Try.prog 37 #[.agg #[.int .i64 a0_0, .slice A0_1 l0_1.length c0_1], .agg #[.int .i64 a1_0, .string a1_1]] w fun e w' => ∃ v1_ : Value, e = .returned (.agg #[.int .i64 r1, v1_]) ∧ Kd.R k49 49 w' w.heap.size (fun _ => True) v1_ r2 ∧ Below w.heap.size w w' := by
 have hu25 := Try.underlying25
 have hu49 := Try.underlying49
 have HR0_1 := Aside0.mk hr0_1
 have HC0_1 := Aside0.mk hc0_1
 clear hr0_1 hc0_1
 have HB := Aside0.mk (Below.refl w.heap.size w)
 have H : ((impl_copyTable.f a0_0 l0_1).bind fun bt518 => ((impl_Table_place.f k a0_0 l0_1 a1_0 a1_1).bind fun bt523 => ((slices_Insert_impl_Entry_impl_Entry.f bt518.2 bt523.1 (([(⟨a1_0, a1_1⟩ : S49)] : List (S49)))).bind fun t528 => (some (bt518.1, t528))))) = some (r1, r2) := h
 clear h
 replace H := BS H
 obtain ⟨⟨t518, t519⟩, A30, H⟩ := H
 have A3 := Aside0.mk A30
 clear A30
 replace H := BS H
 obtain ⟨⟨t523, t524⟩, A40, H⟩ := H
 have A4 := Aside0.mk A40
 clear A40
 obtain ⟨y525, hy525⟩ : ∃ y_ : List (S49), y_ = (([(⟨a1_0, a1_1⟩ : S49)] : List (S49))) := ⟨_, rfl⟩
 replace H : ((slices_Insert_impl_Entry_impl_Entry.f t519 t523 y525).bind fun t528 => (some (t518, t528))) = some (r1, r2) := by first | (rw [hy525]; with_reducible exact H) | (have H2_ := (Option.bind_some _ _).symm.trans H; rw [hy525]; with_reducible exact H2_) | (have H2_ := (Option.bind_some _ _).symm.trans H; with_reducible exact H2_) | with_reducible exact H | (rw [hy525]; exact H) | exact H
 have Ny525 := Aside0.mk hy525
 clear hy525
 replace H := BS H
 obtain ⟨t528, A50, H⟩ := H
 have A5 := Aside0.mk A50
 clear A50
 simp only [Option.some.injEq, Prod.mk.injEq] at H
 obtain ⟨rfl, rfl⟩ := H
 go_enter Try.func37, Try.ntmps37
 go_wp2_with (first | ((with_reducible refine gate_dst (N := 2) rfl ?_); refine box_event ?hg (N := 2) ?hd (cs := #[.int .i64 a0_0, .slice A0_1 l0_1.length c0_1]) (t := 25) ?hr ?_; (case hd => rfl); (case hg => rfl); (case hr => first | (go_simp; done) | (go_simp; rfl)); intro gb515 hg w6 hbox hb; have n_ : _ ∧ _ ∧ _ ∧ _ := ⟨AsM (below_step BL hb), AsM (hbox), AsM ((GL : w.heap.size ≤ gb515)), AsM ((GL : w.heap.size ≤ gb515))⟩; clear HB; obtain ⟨HB, BK515, GW515, GE515⟩ := n_; clear hb hbox hg) | ((with_reducible refine gate_dst (N := 3) rfl ?_); refine box_event ?hg (N := 3) ?hd (cs := #[.int .i64 a1_0, .string a1_1]) (t := 49) ?hr ?_; (case hd => rfl); (case hg => rfl); (case hr => first | (go_simp; done) | (go_simp; rfl)); intro gb516 hg w7 hbox hb; have n_ : _ ∧ _ ∧ _ ∧ _ ∧ _ ∧ _ ∧ _ := ⟨AsM (blk_below (BD BK515) hb), AsM (below_step BG hb), AsM (hbox), AsM ((GM : w.heap.size ≤ gb516)), AsM ((GM : w.heap.size ≤ gb516)), AsM ((by rw [hg]; exact Nat.ne_of_lt (blk_lt (BD BK515)) : gb515 ≠ gb516)), AsM ((by rw [hg]; exact Nat.ne_of_gt (blk_lt (BD BK515)) : gb516 ≠ gb515))⟩; clear BK515 HB; obtain ⟨BK515, HB, BK516, GW516, GE516, NB515_516, NB516_515⟩ := n_; clear hb hbox hg) | ((with_reducible refine gate_dst (N := 4) rfl ?_); refine box_event ?hg (N := 4) ?hd (cs := #[.int .i64 0, .slice none 0 0]) (t := 25) ?hr ?_; (case hd => rfl); (case hg => rfl); (case hr => first | (go_simp; done) | (go_simp; rfl)); intro gb517 hg w8 hbox hb; have n_ : _ ∧ _ ∧ _ ∧ _ ∧ _ ∧ _ ∧ _ ∧ _ ∧ _ ∧ _ := ⟨AsM (blk_below (BD BK515) hb), AsM (blk_below (BD BK516) hb), AsM (below_step BG hb), AsM (hbox), AsM ((GM : w.heap.size ≤ gb517)), AsM ((GM : w.heap.size ≤ gb517)), AsM ((by rw [hg]; exact Nat.ne_of_lt (blk_lt (BD BK515)) : gb515 ≠ gb517)), AsM ((by rw [hg]; exact Nat.ne_of_gt (blk_lt (BD BK515)) : gb517 ≠ gb515)), AsM ((by rw [hg]; exact Nat.ne_of_lt (blk_lt (BD BK516)) : gb516 ≠ gb517)), AsM ((by rw [hg]; exact Nat.ne_of_gt (blk_lt (BD BK516)) : gb517 ≠ gb516))⟩; clear BK515 BK516 HB; obtain ⟨BK515, BK516, HB, BK517, GW517, GE517, NB515_517, NB517_515, NB516_517, NB517_516⟩ := n_; clear hb hbox hg; have hnb9 := NB515_516.out; have hnc9 := NB516_515.out; have hnb10 := NB515_517.out; have hnc10 := NB517_515.out; obtain ⟨hcz11_0, hcz11_1, hfz11_0, hfz11_1⟩ := bk2 BK515.out) | ((with_reducible refine gate_callee (f := 33) rfl ?_); refine goesL_ (some 9) rfl rfl Try.func33 (by kernel_rfl) rfl #[.agg #[.int .i64 a0_0, .slice A0_1 l0_1.length c0_1]] rfl AQ ?_; (with_reducible refine (impl_copyTable.calls a0_0 _ _ l0_1 t518 t519 _ ?side1 ?side2 A3.out).mono ?_); (case side1 => exact SC HR0_1); (case side2 => exact HC0_1.out); rintro e w12 ⟨v520, rfl, ho0, hb⟩; refine ⟨_, rfl, ?_⟩; have n_ : _ ∧ _ ∧ _ ∧ _ ∧ _ := ⟨AsM (Kd.R_lower (Kd.R_newB ho0 (g := gb516) (o := .cells #[.int .i64 a1_0, .string a1_1] 49 (0, 0)) (BD BK516)) (below_size BG)), AsM (blk_below (BD BK515) hb), AsM (blk_below (BD BK516) hb), AsM (blk_below (BD BK517) hb), AsM (below_step BG hb)⟩; clear BK515 BK516 BK517 HB; obtain ⟨HO521, BK515, BK516, BK517, HB⟩ := n_; (try clear hb); (try clear hb2); (try clear hk); (try clear hi); (try clear ho0)) | ((with_reducible refine gate_dst (N := 5) rfl ?_); refine box_event ?hg (N := 5) ?hd (cs := #[.int .i64 0, .slice none 0 0]) (t := 25) ?hr ?_; (case hd => rfl); (case hg => rfl); (case hr => first | (go_simp; done) | (go_simp; rfl)); intro gb522 hg w13 hbox hb; have n_ : _ ∧ _ ∧ _ ∧ _ ∧ _ ∧ _ ∧ _ ∧ _ ∧ _ ∧ _ ∧ _ ∧ _ ∧ _ ∧ _ := ⟨AsM (Kd.R_below (RD HO521) hb), AsM (blk_below (BD BK515) hb), AsM (blk_below (BD BK516) hb), AsM (blk_below (BD BK517) hb), AsM (below_step BG hb), AsM (hbox), AsM ((GM : w.heap.size ≤ gb522)), AsM ((GM : w.heap.size ≤ gb522)), AsM ((by rw [hg]; exact Nat.ne_of_lt (blk_lt (BD BK515)) : gb515 ≠ gb522)), AsM ((by rw [hg]; exact Nat.ne_of_gt (blk_lt (BD BK515)) : gb522 ≠ gb515)), AsM ((by rw [hg]; exact Nat.ne_of_lt (blk_lt (BD BK516)) : gb516 ≠ gb522)), AsM ((by rw [hg]; exact Nat.ne_of_gt (blk_lt (BD BK516)) : gb522 ≠ gb516)), AsM ((by rw [hg]; exact Nat.ne_of_lt (blk_lt (BD BK517)) : gb517 ≠ gb522)), AsM ((by rw [hg]; exact Nat.ne_of_gt (blk_lt (BD BK517)) : gb522 ≠ gb517))⟩; clear HO521 BK515 BK516 BK517 HB; obtain ⟨HO521, BK515, BK516, BK517, HB, BK522, GW522, GE522, NB515_522, NB522_515, NB516_522, NB522_516, NB517_522, NB522_517⟩ := n_; clear hb hbox hg; have hnb14 := NB522_515.out; have hnc14 := NB515_522.out; have hnb15 := NB522_516.out; have hnc15 := NB516_522.out; have hnb16 := NB522_517.out; have hnc16 := NB517_522.out; obtain ⟨hcz17_0, hcz17_1, hfz17_0, hfz17_1⟩ := bk2 BK522.out; obtain ⟨Ao18, co18, eo18⟩ := Kd.R_slice HO521.out; subst eo18; obtain ⟨hcz19_0, hcz19_1, hfz19_0, hfz19_1⟩ := bk2 BK515.out; have hnb20 := NB516_517.out; have hnc20 := NB517_516.out; obtain ⟨hcz21_0, hcz21_1, hfz21_0, hfz21_1⟩ := bk2 BK516.out) | ((with_reducible refine gate_callee (f := 34) rfl ?_); refine goesL_ (some 13) rfl rfl Try.func34 (by kernel_rfl) rfl #[.agg #[.int .i64 a0_0, .slice A0_1 l0_1.length c0_1], .agg #[.int .i64 a1_0, .string a1_1]] rfl AQ ?_; (with_reducible refine (impl_Table_place.calls k a0_0 _ _ l0_1 a1_0 a1_1 t523 t524 _ ?side1 ?side2 A4.out).mono ?_); (case side1 => exact Kd.C_below HR0_1.out BG); (case side2 => exact HC0_1.out); rintro e w22 ⟨rfl, hb⟩; refine ⟨_, rfl, ?_⟩; have n_ : _ ∧ _ ∧ _ ∧ _ ∧ _ ∧ _ := ⟨AsM (Kd.R_below (by refine PRx ?_; exact (FM (FR (FR (Kd.R_types HO521.out BK522.out (by decide)))))) hb), AsM (blk_below (g := gb515) (o := .cells #[.int .i64 a0_0, .slice A0_1 l0_1.length c0_1] 25 (0, 0)) (by refine PX ?_; refine blk_far ?_ NB515_522.out _; refine PX ?_; refine blk_far ?_ NB515_522.out _; exact BD BK515) hb), AsM (blk_below (g := gb516) (o := .cells #[.int .i64 a1_0, .string a1_1] 49 (0, 0)) (by refine PX ?_; refine blk_far ?_ NB516_522.out _; refine PX ?_; refine blk_far ?_ NB516_522.out _; exact BD BK516) hb), AsM (blk_below (g := gb517) (o := .cells #[.int .i64 0, .slice none 0 0] 25 (0, 0)) (by refine PX ?_; refine blk_far ?_ NB517_522.out _; refine PX ?_; refine blk_far ?_ NB517_522.out _; exact BD BK517) hb), AsM (blk_below (g := gb522) (o := .cells #[.int .i64 t518, .slice Ao18 t519.length co18] 25 (0, 0)) (by refine PX ?_; refine blk_put (cs := #[.int .i64 t518, .slice none 0 0]) ?_ 1 _ rfl; refine PX ?_; refine blk_put (cs := #[.int .i64 0, .slice none 0 0]) ?_ 0 _ rfl; exact BD BK522) hb), AsM (below_step BG hb)⟩; clear HO521 BK515 BK516 BK517 BK522 HB; obtain ⟨HO521, BK515, BK516, BK517, BK522, HB⟩ := n_; (try clear hb); (try clear hb2); (try clear hk); (try clear hi); obtain ⟨hcz23_0, hcz23_1, hfz23_0, hfz23_1⟩ := bk2 BK522.out; obtain ⟨hcz24_0, hcz24_1, hfz24_0, hfz24_1⟩ := bk2 BK516.out) | ((with_reducible refine gate_dst (N := 20) rfl ?_); refine Kd.R_lit k49 _ 49 ?hg (N := 20) ?hd (xs := ([(⟨a1_0, a1_1⟩ : S49)] : List (S49))) (inner := [.int .i64 a1_0, .string a1_1]) (ok := fun _ => True) (okp := fun _ => True) ?hr ?hp (fun _ hk => hk) trivial (Below.refl _ _) (Nat.le_refl _) (by simp) ?_; (case hd => rfl); (case hg => rfl); (case hr => first | (go_simp; done) | (go_simp; rfl)); (case hp => exact (Reps.c2 (show Kd.M k49 _ _ _ (⟨a1_0, a1_1⟩ : S49) [.int .i64 a1_0, .string a1_1] from (k49_mkM _ _ _ (⟨a1_0, a1_1⟩ : S49) )) (Reps.none _ _))); intro v526 w25 ho26 hb hg_ hnew_; clear hg_ hnew_; (first | rw [← Ny525.out] at ho26 | (simp only [Int.reduceToNat] at ho26; rw [← Ny525.out] at ho26)); have n_ : _ ∧ _ ∧ _ ∧ _ ∧ _ ∧ _ ∧ _ := ⟨AsM (Kd.R_elder' (RD HO521) (Kd.R_base ho26) hb), AsM (Kd.R_lower (Kd.R_newB (Kd.R_new' ho26 (Kd.R_lt (RD HO521))) (g := gb516) (o := .cells #[.int .i64 a1_0, .string a1_1] 49 (0, 0)) (BD BK516)) (below_size BG)), AsM (blk_below (BD BK515) hb), AsM (blk_below (BD BK516) hb), AsM (blk_below (BD BK517) hb), AsM (blk_below (BD BK522) hb), AsM (below_step BG hb)⟩; clear HO521 BK515 BK516 BK517 BK522 HB; obtain ⟨HO521, HO527, BK515, BK516, BK517, BK522, HB⟩ := n_; clear hb ho26; obtain ⟨Ao27, co27, eo27⟩ := Kd.R_slice HO527.out; subst eo27) | ((with_reducible refine gate_callee (f := 51) rfl ?_); refine goesL_ (some 21) rfl rfl Try.func51 (by kernel_rfl) rfl #[.slice Ao18 t519.length co18, .int .i64 t523, .slice Ao27 y525.length co27] rfl AQ ?_; (with_reducible refine (slices_Insert_impl_Entry_impl_Entry.calls (fun k_ => some k_ = (.slice Ao18 t519.length co18 : Value).ownBlock) (.slice Ao18 t519.length co18) t519 t523 (fun k_ => some k_ = (.slice Ao27 y525.length co27 : Value).ownBlock) (.slice Ao27 y525.length co27) y525 t528 w _ ?side1 ?side2 ?side3 ?side4 ?side5 A5.out).mono ?_); (case side1 => repeat (first | (with_reducible first | exact HB.out | apply below_alloc | apply pw_below_drewN | apply below_drew1 | refine below_set ?_ GE515.out | refine below_set ?_ GE516.out | refine below_set ?_ GE517.out | refine below_set ?_ GE522.out) | exact HB.out)); (case side2 => exact Kd.R_tight rfl HO521.out); (case side3 => exact fun k_ e_ => (HO521.out.1 k_ e_.symm).2); (case side4 => exact Kd.R_tight rfl HO527.out); (case side5 => exact fun k_ e_ => (HO527.out.1 k_ e_.symm).1.2); rintro e w28 ⟨v529, rfl, ho0, hb, hkp⟩; refine ⟨_, rfl, ?_⟩; have n_ : _ ∧ _ ∧ _ ∧ _ ∧ _ ∧ _ := ⟨AsM (blk_kept (BD BK515) hkp (fun hs_ => Or.elim hs_ (fun e_ => (fun e_ => (Kd.R_ne HO521.out BK515.out (by decide)) e_) e_) (fun e_ => (fun e_ => (Kd.R_ne HO527.out BK515.out (by decide)) e_) e_))), AsM (blk_kept (BD BK516) hkp (fun hs_ => Or.elim hs_ (fun e_ => (fun e_ => (Kd.R_away HO521.out (fun _ hk => hk.1.2)) e_) e_) (fun e_ => (fun e_ => (Kd.R_away HO527.out (fun _ hk => hk.2)) e_) e_))), AsM (blk_kept (BD BK517) hkp (fun hs_ => Or.elim hs_ (fun e_ => (fun e_ => (Kd.R_ne HO521.out BK517.out (by decide)) e_) e_) (fun e_ => (fun e_ => (Kd.R_ne HO527.out BK517.out (by decide)) e_) e_))), AsM (blk_kept (BD BK522) hkp (fun hs_ => Or.elim hs_ (fun e_ => (fun e_ => (Kd.R_ne HO521.out BK522.out (by decide)) e_) e_) (fun e_ => (fun e_ => (Kd.R_ne HO527.out BK522.out (by decide)) e_) e_))), AsM (Kd.R_mono (ok' := fun k_ => k_ ≠ gb516) ho0 (fun k_ hk_ => Or.elim hk_ (fun hs_ => Or.elim hs_ (fun hs_ => fun e_ => (Kd.R_away HO521.out (fun _ hk => hk.1.2)) (by rw [← e_]; exact hs_)) (fun hs_ => fun e_ => (Kd.R_away HO527.out (fun _ hk => hk.2)) (by rw [← e_]; exact hs_))) (fun hn_ => (Kd.freshB (g := gb516) (o := .cells #[.int .i64 a1_0, .string a1_1] 49 (0, 0)) (BD BK516) k_ hn_)))), AsM (hb)⟩; clear BK515 BK516 BK517 BK522 HB HO521 HO527; obtain ⟨BK515, BK516, BK517, BK522, HO530, HB⟩ := n_; (try clear hb); (try clear hkp); (try clear ho0); obtain ⟨Ao29, co29, eo29⟩ := Kd.R_slice HO530.out; subst eo29; obtain ⟨hcz30_0, hcz30_1, hfz30_0, hfz30_1⟩ := bk2 BK522.out; obtain ⟨hcz31_0, hcz31_1, hfz31_0, hfz31_1⟩ := bk2 BK517.out))
 refine bodyPost_ret (results_cell_row rfl _ _ gb517 25 #[.int .i64 t518, .slice Ao29 t528.length co29] (0, 0) _ rfl (by refine PX ?_; refine blk_put (cs := #[.int .i64 t518, .slice none 0 0]) ?_ 1 _ rfl; refine PX ?_; refine blk_put (cs := #[.int .i64 0, .slice none 0 0]) ?_ 0 _ rfl; refine PX ?_; refine blk_far ?_ NB517_522.out _; exact BD BK517) Try.underlying25 rfl (by kernel_rfl)) rfl ?_
 exact ⟨_, ER, by refine PRx ?_; exact Kd.R_mono (FR (FR (Kd.R_far (p := ⟨gb522, 1, none⟩) (Kd.R_types (Kd.R_types HO530.out BK522.out (by decide)) BK517.out (by decide)) (fun _ hk => hk.1.2) (.slice Ao29 t528.length co29)))) (fun _ hk => trivial), BG⟩
def impl_Table_opened.f : Nat → Int → List (S49) → Int → Option (Int × (List (S49)))
 | 0, _, _, _ => none
 | k + 1, a0_0, l0_1, a1 => (impl_Table_isOpen.f k a0_0 l0_1 a1).bind fun t533 => (if t533 = true then ((impl_copyTable.f a0_0 l0_1).bind fun bt534 => (some (bt534.1, bt534.2))) else ((impl_Parent.f k a1).bind fun t538 => ((impl_Table_opened.f k a0_0 l0_1 t538).bind fun bt539 => ((impl_DummyKey.f a1).bind fun t543 => ((impl_Table_with.f k bt539.1 bt539.2 t543 (⟨#[]⟩ : ByteArray)).bind fun bt544 => (some (bt544.1, bt544.2)))))))
theorem impl_Table_opened.mono_l : ∀ k, (∀ y0 y1 y2, LeO (impl_Table_opened.f k y0 y1 y2) (impl_Table_opened.f (k + 1) y0 y1 y2))
 | 0 => fun _ _ _ r h => by simp [impl_Table_opened.f] at h
 | k + 1 => by
  have ih0 := impl_Table_opened.mono_l k
  ·intro y0 y1 y2
   unfold impl_Table_opened.f
   repeat' first | (with_reducible first | exact ih0 _ _ _ | exact impl_Parent.mono _ _ | exact impl_Table_isOpen.mono _ _ _ _ | exact impl_Table_with.mono _ _ _ _ _ | exact LeO.refl _ | exact LeO.none _ | refine LeO.ite ?_ ?_ | refine LeO.bind ?_ (fun _ => ?_)) | exact ih0 _ _ _ | exact impl_Parent.mono _ _ | exact impl_Table_isOpen.mono _ _ _ _ | exact impl_Table_with.mono _ _ _ _ _ | exact LeO.none _ | refine LeO.ite ?_ ?_ | refine LeO.bind ?_ (fun _ => ?_)
theorem impl_Table_opened.mono : ∀ a0 a1 a2 k, LeO (impl_Table_opened.f k a0 a1 a2) (impl_Table_opened.f (k + 1) a0 a1 a2) := by
 intro a0 a1 a2 k
 have ih0 := impl_Table_opened.mono_l k
 exact ih0 a0 a1 a2
def impl_Table_opened.T3 : Bool × List (List Nat × List Nat) := (true, [([], []), ([], []), ([1], [1]), ([0, 2, 2], [0, 2]), ([], []), ([4, 3], [4]), ([5], [5]), ([3, 6, 5], [3, 6]), ([7, 7, 0, 1, 2, 3, 4, 5, 6, 7], [7])])
def impl_Table_opened.B3 : List Nat := [0, 0, 2, 7, 0, 31, 63, 127, 255]
theorem impl_Table_opened.tab3 : rtab .any (opsOf Try.f36 3) = impl_Table_opened.T3 := by kernel_rfl
theorem impl_Table_opened.bits3 : waitsOk impl_Table_opened.T3.2 impl_Table_opened.B3 = true := by kernel_rfl
set_option maxHeartbeats 8000000 in
set_option maxRecDepth 100000 in
theorem impl_Table_opened.calls (k : Nat) : ∀ (a0_0 : Int) (A0_1 : Option Addr) (c0_1 : Nat) (l0_1 : List (S49)) (a1 : Int) (r1 : Int) (r2 : List (S49)) (w : World) (hr0_1 : Kd.C k49 w A0_1 l0_1.length l0_1) (hc0_1 : l0_1.length ≤ c0_1) (h : impl_Table_opened.f k a0_0 l0_1 a1 = some (r1, r2)),
  Calls Try.prog 36 #[.agg #[.int .i64 a0_0, .slice A0_1 l0_1.length c0_1], .int .i64 a1] w fun e w' => ∃ v1_ : Value, e = .returned (.agg #[.int .i64 r1, v1_]) ∧ Kd.R k49 49 w' w.heap.size (fun _ => True) v1_ r2 ∧ Below w.heap.size w w' := by
 induction k using Nat.strongRecOn with
 | _ k ih =>
 intro a0_0 A0_1 c0_1 l0_1 a1 r1 r2 w hr0_1 hc0_1 h
 cases k with
 | zero => exact absurd h (by simp [impl_Table_opened.f])
 | succ k =>
 simp only [impl_Table_opened.f] at h
 have hu25 := Try.underlying25
 have hu49 := Try.underlying49
 have HR0_1 := Aside0.mk hr0_1
 have HC0_1 := Aside0.mk hc0_1
 clear hr0_1 hc0_1
 have HB := Aside0.mk (Below.refl w.heap.size w)
 have H : ((impl_Table_isOpen.f k a0_0 l0_1 a1).bind fun t533 => (if t533 = true then ((impl_copyTable.f a0_0 l0_1).bind fun bt534 => (some (bt534.1, bt534.2))) else ((impl_Parent.f k a1).bind fun t538 => ((impl_Table_opened.f k a0_0 l0_1 t538).bind fun bt539 => ((impl_DummyKey.f a1).bind fun t543 => ((impl_Table_with.f k bt539.1 bt539.2 t543 (⟨#[]⟩ : ByteArray)).bind fun bt544 => (some (bt544.1, bt544.2)))))))) = some (r1, r2) := h
 clear h
 replace H := BS H
 obtain ⟨t533, A30, H⟩ := H
 have A3 := Aside0.mk A30
 clear A30
 by_cases c4 : t533 = true
 ·subst c4
  replace H := IP H
  replace H := BS H
  obtain ⟨⟨t534, t535⟩, A50, H⟩ := H
  have A5 := Aside0.mk A50
  clear A50
  simp only [Option.some.injEq, Prod.mk.injEq] at H
  obtain ⟨rfl, rfl⟩ := H
  go_enter Try.func36, Try.ntmps36
  go_wp2_with (first | ((with_reducible refine gate_dst (N := 2) rfl ?_); refine box_event ?hg (N := 2) ?hd (cs := #[.int .i64 a0_0, .slice A0_1 l0_1.length c0_1]) (t := 25) ?hr ?_; (case hd => rfl); (case hg => rfl); (case hr => first | (go_simp; done) | (go_simp; rfl)); intro gb531 hg w6 hbox hb; have n_ : _ ∧ _ ∧ _ ∧ _ := ⟨AsM (below_step BL hb), AsM (hbox), AsM ((GL : w.heap.size ≤ gb531)), AsM ((GL : w.heap.size ≤ gb531))⟩; clear HB; obtain ⟨HB, BK531, GW531, GE531⟩ := n_; clear hb hbox hg) | ((with_reducible refine gate_dst (N := 4) rfl ?_); refine box_event ?hg (N := 4) ?hd (cs := #[.int .i64 0, .slice none 0 0]) (t := 25) ?hr ?_; (case hd => rfl); (case hg => rfl); (case hr => first | (go_simp; done) | (go_simp; rfl)); intro gb532 hg w7 hbox hb; have n_ : _ ∧ _ ∧ _ ∧ _ ∧ _ ∧ _ ∧ _ := ⟨AsM (blk_below (BD BK531) hb), AsM (below_step BG hb), AsM (hbox), AsM ((GM : w.heap.size ≤ gb532)), AsM ((GM : w.heap.size ≤ gb532)), AsM ((by rw [hg]; exact Nat.ne_of_lt (blk_lt (BD BK531)) : gb531 ≠ gb532)), AsM ((by rw [hg]; exact Nat.ne_of_gt (blk_lt (BD BK531)) : gb532 ≠ gb531))⟩; clear BK531 HB; obtain ⟨BK531, HB, BK532, GW532, GE532, NB531_532, NB532_531⟩ := n_; clear hb hbox hg; have hnb8 := NB531_532.out; have hnc8 := NB532_531.out; obtain ⟨hcz9_0, hcz9_1, hfz9_0, hfz9_1⟩ := bk2 BK531.out) | ((with_reducible refine gate_callee (f := 28) rfl ?_); refine goesL_ (some 7) rfl rfl Try.func28 (by kernel_rfl) rfl #[.agg #[.int .i64 a0_0, .slice A0_1 l0_1.length c0_1], .int .i64 a1] rfl AQ ?_; (with_reducible refine (impl_Table_isOpen.calls k a0_0 _ _ l0_1 a1 true _ ?side1 ?side2 A3.out).mono ?_); (case side1 => exact SC HR0_1); (case side2 => exact HC0_1.out); rintro e w10 ⟨rfl, hb⟩; refine ⟨_, rfl, ?_⟩; have n_ : _ ∧ _ ∧ _ := ⟨AsM (blk_below (BD BK531) hb), AsM (blk_below (BD BK532) hb), AsM (below_step BG hb)⟩; clear BK531 BK532 HB; obtain ⟨BK531, BK532, HB⟩ := n_; (try clear hb); (try clear hb2); (try clear hk); (try clear hi); obtain ⟨hcz11_0, hcz11_1, hfz11_0, hfz11_1⟩ := bk2 BK531.out) | ((with_reducible refine gate_callee (f := 33) rfl ?_); refine goesL_ (some 9) rfl rfl Try.func33 (by kernel_rfl) rfl #[.agg #[.int .i64 a0_0, .slice A0_1 l0_1.length c0_1]] rfl AQ ?_; (with_reducible refine (impl_copyTable.calls a0_0 _ _ l0_1 t534 t535 _ ?side1 ?side2 A5.out).mono ?_); (case side1 => exact SC HR0_1); (case side2 => exact HC0_1.out); rintro e w12 ⟨v536, rfl, ho0, hb⟩; refine ⟨_, rfl, ?_⟩; have n_ : _ ∧ _ ∧ _ ∧ _ := ⟨AsM (Kd.R_lower ho0 (below_size BG)), AsM (blk_below (BD BK531) hb), AsM (blk_below (BD BK532) hb), AsM (below_step BG hb)⟩; clear BK531 BK532 HB; obtain ⟨HO537, BK531, BK532, HB⟩ := n_; (try clear hb); (try clear hb2); (try clear hk); (try clear hi); (try clear ho0); obtain ⟨hcz13_0, hcz13_1, hfz13_0, hfz13_1⟩ := bk2 BK532.out; obtain ⟨Ao14, co14, eo14⟩ := Kd.R_slice HO537.out; subst eo14))
  refine bodyPost_ret (results_cell_row rfl _ _ gb532 25 #[.int .i64 t534, .slice Ao14 t535.length co14] (0, 0) _ rfl (by refine PX ?_; refine blk_put (cs := #[.int .i64 t534, .slice none 0 0]) ?_ 1 _ rfl; refine PX ?_; refine blk_put (cs := #[.int .i64 0, .slice none 0 0]) ?_ 0 _ rfl; exact BD BK532) Try.underlying25 rfl (by kernel_rfl)) rfl ?_
  exact ⟨_, ER, by refine PRx ?_; exact Kd.R_mono (FR (FR (Kd.R_types HO537.out BK532.out (by decide)))) (fun _ hk => trivial), BG⟩
 ·replace c4 := Bool.eq_false_iff.mpr c4
  subst c4
  replace H := IN H
  replace H := BS H
  obtain ⟨t538, A150, H⟩ := H
  have A15 := Aside0.mk A150
  clear A150
  replace H := BS H
  obtain ⟨⟨t539, t540⟩, A160, H⟩ := H
  have A16 := Aside0.mk A160
  clear A160
  replace H := BS H
  obtain ⟨t543, A170, H⟩ := H
  have A17 := Aside0.mk A170
  clear A170
  replace H := BS H
  obtain ⟨⟨t544, t545⟩, A180, H⟩ := H
  have A18 := Aside0.mk A180
  clear A180
  simp only [Option.some.injEq, Prod.mk.injEq] at H
  obtain ⟨rfl, rfl⟩ := H
  go_enter Try.func36, Try.ntmps36
  try go_wp2_with (first | ((with_reducible refine gate_dst (N := 2) rfl ?_); refine box_event ?hg (N := 2) ?hd (cs := #[.int .i64 a0_0, .slice A0_1 l0_1.length c0_1]) (t := 25) ?hr ?_; (case hd => rfl); (case hg => rfl); (case hr => first | (go_simp; done) | (go_simp; rfl)); intro gb531 hg w19 hbox hb; have n_ : _ ∧ _ ∧ _ ∧ _ := ⟨AsM (below_step BL hb), AsM (hbox), AsM ((GL : w.heap.size ≤ gb531)), AsM ((GL : w.heap.size ≤ gb531))⟩; clear HB; obtain ⟨HB, BK531, GW531, GE531⟩ := n_; clear hb hbox hg) | ((with_reducible refine gate_dst (N := 4) rfl ?_); refine box_event ?hg (N := 4) ?hd (cs := #[.int .i64 0, .slice none 0 0]) (t := 25) ?hr ?_; (case hd => rfl); (case hg => rfl); (case hr => first | (go_simp; done) | (go_simp; rfl)); intro gb532 hg w20 hbox hb; have n_ : _ ∧ _ ∧ _ ∧ _ ∧ _ ∧ _ ∧ _ := ⟨AsM (blk_below (BD BK531) hb), AsM (below_step BG hb), AsM (hbox), AsM ((GM : w.heap.size ≤ gb532)), AsM ((GM : w.heap.size ≤ gb532)), AsM ((by rw [hg]; exact Nat.ne_of_lt (blk_lt (BD BK531)) : gb531 ≠ gb532)), AsM ((by rw [hg]; exact Nat.ne_of_gt (blk_lt (BD BK531)) : gb532 ≠ gb531))⟩; clear BK531 HB; obtain ⟨BK531, HB, BK532, GW532, GE532, NB531_532, NB532_531⟩ := n_; clear hb hbox hg; have hnb21 := NB531_532.out; have hnc21 := NB532_531.out; obtain ⟨hcz22_0, hcz22_1, hfz22_0, hfz22_1⟩ := bk2 BK531.out) | ((with_reducible refine gate_callee (f := 28) rfl ?_); refine goesL_ (some 7) rfl rfl Try.func28 (by kernel_rfl) rfl #[.agg #[.int .i64 a0_0, .slice A0_1 l0_1.length c0_1], .int .i64 a1] rfl AQ ?_; (with_reducible refine (impl_Table_isOpen.calls k a0_0 _ _ l0_1 a1 false _ ?side1 ?side2 A3.out).mono ?_); (case side1 => exact SC HR0_1); (case side2 => exact HC0_1.out); rintro e w23 ⟨rfl, hb⟩; refine ⟨_, rfl, ?_⟩; have n_ : _ ∧ _ ∧ _ := ⟨AsM (blk_below (BD BK531) hb), AsM (blk_below (BD BK532) hb), AsM (below_step BG hb)⟩; clear BK531 BK532 HB; obtain ⟨BK531, BK532, HB⟩ := n_; (try clear hb); (try clear hb2); (try clear hk); (try clear hi)))
  have n_ : _ ∧ _ ∧ _ := ⟨AsM (blk_drew BK531.out), AsM (blk_drew BK532.out), AsM (below_drew1 HB.out)⟩
  clear BK531 BK532 HB
  obtain ⟨BK531, BK532, HB⟩ := n_
  refine start_ (n := 9) (S := fun w' => w'.cell? ⟨gb531, 0, none⟩ = some (.int .i64 a0_0) ∧ w'.cell? ⟨gb531, 1, none⟩ = some (.slice A0_1 l0_1.length c0_1)) (ds := []) #[false, false, false, false, false, false, false, false, false] (by kernel_rfl) rfl rfl ⟨(blk_cell BK531.out 0).trans rfl, (blk_cell BK531.out 1).trans rfl⟩ (fun hHeld => ?_); refine with_tabW impl_Table_opened.tab3 impl_Table_opened.bits3 (fun HT_ HW_ => ?_)
  generalize w23.drew = w24 at BK531 BK532 HB hHeld ⊢
  refine PU (i := 1) (N := some 11) #[false, true, false, false, false, false, false, false, false] rfl rfl HT_ ?_
  refine PU (i := 4) (N := some 14) #[false, true, false, false, true, false, false, false, false] rfl rfl HT_ ?_
  refine PT (i := 0) (N := some 10) #[true, true, false, false, true, false, false, false, false] rfl rfl HT_ HW_ hHeld ?_
  refine one_ (i := 2) (N := some 12) #[true, true, true, false, true, false, false, false, false] rfl rfl (one_of HT_.out (by kernel_rfl)) (by decide) (fun K hK => ?_)
  refine goes_ Try.func29 (by kernel_rfl) rfl #[.int .i64 a1] (by rfl) rfl rfl AQ ?_
  with_reducible refine (impl_Parent.calls k a1 t538 _ A15.out).mono ?_
  rintro e w' ⟨rfl, ⟨nd, rfl⟩⟩
  refine ⟨_, rfl, ?_⟩
  refine hK.out _ _ ⟨(blk_cell BK531.out 0).trans rfl, (blk_cell BK531.out 1).trans rfl⟩ (fun hHeld => ?_)
  clear hK K
  refine NM (some 12) ?_
  refine one_ (i := 3) (N := some 13) (tf 5 4) rfl rfl (one_of HT_.out (by kernel_rfl)) (by decide) (fun K hK => ?_)
  refine goes_ Try.func36 (by kernel_rfl) rfl #[.agg #[.int .i64 a0_0, .slice A0_1 l0_1.length c0_1], .int .i64 t538] (by rfl) rfl rfl AQ ?_
  with_reducible refine (ih k (by omega) a0_0 _ _ l0_1 t538 t539 t540 _ ?side1 ?side2 A16.out).mono ?_
  (case side1 => repeat (first | exact (Kd.C_below HR0_1.out BG) | (with_reducible refine Kd.C_alloc ?_ _) | (with_reducible refine Kd.C_drewN ?_ _) | (with_reducible refine Kd.C_drew ?_)))
  (case side2 => exact HC0_1.out)
  rintro e w25 ⟨v541, rfl, ho0, hb⟩
  refine ⟨_, rfl, ?_⟩
  have n_ : _ ∧ _ ∧ _ ∧ _ := ⟨AsM (Kd.R_lower ho0 (below_size BG)), AsM (blk_below (BD BK531) hb), AsM (blk_below (BD BK532) hb), AsM (below_step BG hb)⟩
  clear BK531 BK532 HB
  obtain ⟨HO542, BK531, BK532, HB⟩ := n_
  (try clear hb)
  (try clear hb2)
  (try clear hk)
  (try clear hi)
  (try clear ho0)
  refine hK.out _ _ ⟨(blk_cell BK531.out 0).trans rfl, (blk_cell BK531.out 1).trans rfl⟩ (fun hHeld => ?_)
  clear hK K
  refine NM (some 13) ?_
  refine one_ (i := 5) (N := some 15) (tf 6 3) rfl rfl (one_of HT_.out (by kernel_rfl)) (by decide) (fun K hK => ?_)
  refine goes_ Try.func38 (by kernel_rfl) rfl #[.int .i64 a1] (by rfl) rfl rfl AQ ?_
  with_reducible refine (impl_DummyKey.calls a1 t543 _ A17.out).mono ?_
  rintro e w' ⟨rfl, ⟨nd, rfl⟩⟩
  refine ⟨_, rfl, ?_⟩
  obtain ⟨Ao26, co26, eo26⟩ := Kd.R_slice HO542.out
  (first | subst eo26 | (injection eo26 with f1_ f2_ f3_; have f4_ := f1_.symm; have f5_ := f3_.symm; clear f1_ f2_ f3_; subst f4_; subst f5_))
  refine hK.out _ _ ⟨(blk_cell BK531.out 0).trans rfl, (blk_cell BK531.out 1).trans rfl⟩ (fun hHeld => ?_)
  clear hK K
  refine NM (some 15) ?_
  refine PU (i := 6) (N := some 16) (tf 7 2) rfl rfl HT_ ?_
  refine one_ (i := 7) (N := some 17) (tf 8 1) rfl rfl (one_of HT_.out (by kernel_rfl)) (by decide) (fun K hK => ?_)
  refine goes_ Try.func37 (by kernel_rfl) rfl #[.agg #[.int .i64 t539, .slice Ao26 t540.length co26], .agg #[.int .i64 t543, .string (⟨#[]⟩ : ByteArray)]] (by rfl) rfl rfl AQ ?_
  with_reducible refine (impl_Table_with.calls k t539 _ _ t540 t543 (⟨#[]⟩ : ByteArray) t544 t545 _ ?side1 ?side2 A18.out).mono ?_
  (case side1 => exact SR HO542)
  (case side2 => exact (Kd.R_reads' HO542.out).2.1)
  rintro e w27 ⟨v546, rfl, ho0, hb⟩
  refine ⟨_, rfl, ?_⟩
  have n_ : _ ∧ _ ∧ _ ∧ _ ∧ _ := ⟨AsM (Kd.R_elder' (RD HO542) (Kd.R_base ho0) hb), AsM (Kd.R_lower (Kd.R_new' ho0 (Kd.R_lt (RD HO542))) (below_size BG)), AsM (blk_below (BD BK531) hb), AsM (blk_below (BD BK532) hb), AsM (below_step BG hb)⟩
  clear HO542 BK531 BK532 HB
  obtain ⟨HO542, HO547, BK531, BK532, HB⟩ := n_
  (try clear hb)
  (try clear hb2)
  (try clear hk)
  (try clear hi)
  (try clear ho0)
  obtain ⟨Ao29, co29, eo29⟩ := Kd.R_slice HO547.out
  (first | subst eo29 | (injection eo29 with f1_ f2_ f3_; have f4_ := f1_.symm; have f5_ := f3_.symm; clear f1_ f2_ f3_; subst f4_; subst f5_))
  refine hK.out _ _ ⟨(blk_cell BK531.out 0).trans rfl, (blk_cell BK531.out 1).trans rfl⟩ (fun hHeld => ?_)
  clear hK K
  refine NM (some 17) ?_
  refine one_ (i := 8) (N := none) (tf 9 0) rfl rfl (one_of HT_.out (by kernel_rfl)) (by decide) (fun K hK => ?_)
  have hs28 : w27.cell? ⟨gb532, 0, none⟩ = some (.int .i64 0) := (blk_cell BK532.out 0).trans rfl
  have hfs28 := blk_frozen BK532.out 0
  have hns28_0 := NB531_532.out
  have hms28_0 := NB532_531.out
  have hs30 : w27.cell? ⟨gb532, 1, none⟩ = some (.slice none 0 0) := (blk_cell BK532.out 1).trans rfl
  have hfs30 := blk_frozen BK532.out 1
  have hns30_0 := NB531_532.out
  have hms30_0 := NB532_531.out
  refine skip_ (w1 := ?_) (by rfl) rfl ?_ ?_
  rotate_left
  ·go_simp
   rfl
  refine hK.out _ _ ⟨((cell_far (p := ⟨gb532, _, none⟩) NB531_532.out _).trans (((cell_far (p := ⟨gb532, _, none⟩) NB531_532.out _).trans (hHeld.1)))), ((cell_far (p := ⟨gb532, _, none⟩) NB531_532.out _).trans (((cell_far (p := ⟨gb532, _, none⟩) NB531_532.out _).trans (hHeld.2))))⟩ (fun hHeld => ?_)
  clear hK K
  refine done_ (done_of HT_.out (by kernel_rfl)) ?_
  try go_wp2
  refine bodyPost_ret (results_cell_row rfl _ _ gb532 25 #[.int .i64 t544, .slice Ao29 t545.length co29] (0, 0) _ rfl (by refine PX ?_; refine blk_put (cs := #[.int .i64 t544, .slice none 0 0]) ?_ 1 _ rfl; refine PX ?_; refine blk_put (cs := #[.int .i64 0, .slice none 0 0]) ?_ 0 _ rfl; exact BD BK532) Try.underlying25 rfl (by kernel_rfl)) rfl ?_
  exact ⟨_, ER, by refine PRx ?_; exact Kd.R_mono (FR (FR (Kd.R_types HO547.out BK532.out (by decide)))) (fun _ hk => trivial), BG⟩
def impl_Open.f (k : Nat) (a0_0 : Int) (l0_1 : List (S49)) (a1 : Int) : Option (Int × (List (S49)) × Bool) := (impl_TableOk.f k a0_0 l0_1).bind fun t636 => (if t636 = true then ((impl_within.f a1 0 (wrap64 (a0_0 - 1))).bind fun t637 => (if t637 = true then ((impl_Table_opened.f k a0_0 l0_1 a1).bind fun bt638 => (some (bt638.1, bt638.2, true))) else (some (0, ([] : List (S49)), false)))) else (some (0, ([] : List (S49)), false)))
theorem impl_Open.mono : ∀ a0 a1 a2 k, LeO (impl_Open.f k a0 a1 a2) (impl_Open.f (k + 1) a0 a1 a2) := by
 intro a0 a1 a2 k
 unfold impl_Open.f
 repeat' first | (with_reducible first | exact impl_TableOk.mono _ _ _ | exact impl_Table_opened.mono _ _ _ _ | exact LeO.refl _ | exact LeO.none _ | refine LeO.ite ?_ ?_ | refine LeO.bind ?_ (fun _ => ?_)) | exact impl_TableOk.mono _ _ _ | exact impl_Table_opened.mono _ _ _ _ | exact LeO.none _ | refine LeO.ite ?_ ?_ | refine LeO.bind ?_ (fun _ => ?_)
set_option maxHeartbeats 8000000 in
set_option maxRecDepth 100000 in
theorem impl_Open.calls (k : Nat) (a0_0 : Int) (A0_1 : Option Addr) (c0_1 : Nat) (l0_1 : List (S49)) (a1 : Int) (r1 : Int) (r2 : List (S49)) (r3 : Bool) (w : World) (hr0_1 : Kd.C k49 w A0_1 l0_1.length l0_1) (hc0_1 : l0_1.length ≤ c0_1) (h : impl_Open.f k a0_0 l0_1 a1 = some (r1, r2, r3)) :
  Calls Try.prog 16 #[.agg #[.int .i64 a0_0, .slice A0_1 l0_1.length c0_1], .int .i64 a1] w fun e w' => ∃ v1_ : Value, e = .returned (.tuple #[.agg #[.int .i64 r1, v1_], .bool r3]) ∧ Kd.R k49 49 w' w.heap.size (fun _ => True) v1_ r2 ∧ Below w.heap.size w w' := by
 have hu25 := Try.underlying25
 have HR0_1 := Aside0.mk hr0_1
 have HC0_1 := Aside0.mk hc0_1
 clear hr0_1 hc0_1
 have HB := Aside0.mk (Below.refl w.heap.size w)
 have H : ((impl_TableOk.f k a0_0 l0_1).bind fun t636 => (if t636 = true then ((impl_within.f a1 0 (wrap64 (a0_0 - 1))).bind fun t637 => (if t637 = true then ((impl_Table_opened.f k a0_0 l0_1 a1).bind fun bt638 => (some (bt638.1, bt638.2, true))) else (some (0, ([] : List (S49)), false)))) else (some (0, ([] : List (S49)), false)))) = some (r1, r2, r3) := h
 clear h
 replace H := BS H
 obtain ⟨t636, A30, H⟩ := H
 have A3 := Aside0.mk A30
 clear A30
 by_cases c4 : t636 = true
 ·subst c4
  replace H := IP H
  replace H := BS H
  obtain ⟨t637, A50, H⟩ := H
  have A5 := Aside0.mk A50
  clear A50
  by_cases c6 : t637 = true
  ·subst c6
   replace H := IP H
   replace H := BS H
   obtain ⟨⟨t638, t639⟩, A70, H⟩ := H
   have A7 := Aside0.mk A70
   clear A70
   simp only [Option.some.injEq, Prod.mk.injEq] at H
   obtain ⟨rfl, rfl, rfl⟩ := H
   go_enter Try.func16, Try.ntmps16
   go_wp2_with (first | ((with_reducible refine gate_dst (N := 2) rfl ?_); refine box_event ?hg (N := 2) ?hd (cs := #[.int .i64 a0_0, .slice A0_1 l0_1.length c0_1]) (t := 25) ?hr ?_; (case hd => rfl); (case hg => rfl); (case hr => first | (go_simp; done) | (go_simp; rfl)); intro gb634 hg w8 hbox hb; have n_ : _ ∧ _ ∧ _ ∧ _ := ⟨AsM (below_step BL hb), AsM (hbox), AsM ((GL : w.heap.size ≤ gb634)), AsM ((GL : w.heap.size ≤ gb634))⟩; clear HB; obtain ⟨HB, BK634, GW634, GE634⟩ := n_; clear hb hbox hg) | ((with_reducible refine gate_dst (N := 4) rfl ?_); refine box_event ?hg (N := 4) ?hd (cs := #[.int .i64 0, .slice none 0 0]) (t := 25) ?hr ?_; (case hd => rfl); (case hg => rfl); (case hr => first | (go_simp; done) | (go_simp; rfl)); intro gb635 hg w9 hbox hb; have n_ : _ ∧ _ ∧ _ ∧ _ ∧ _ ∧ _ ∧ _ := ⟨AsM (blk_below (BD BK634) hb), AsM (below_step BG hb), AsM (hbox), AsM ((GM : w.heap.size ≤ gb635)), AsM ((GM : w.heap.size ≤ gb635)), AsM ((by rw [hg]; exact Nat.ne_of_lt (blk_lt (BD BK634)) : gb634 ≠ gb635)), AsM ((by rw [hg]; exact Nat.ne_of_gt (blk_lt (BD BK634)) : gb635 ≠ gb634))⟩; clear BK634 HB; obtain ⟨BK634, HB, BK635, GW635, GE635, NB634_635, NB635_634⟩ := n_; clear hb hbox hg; have hnb10 := NB634_635.out; have hnc10 := NB635_634.out; obtain ⟨hcz11_0, hcz11_1, hfz11_0, hfz11_1⟩ := bk2 BK634.out) | ((with_reducible refine gate_callee (f := 7) rfl ?_); refine goesL_ (some 7) rfl rfl Try.func7 (by kernel_rfl) rfl #[.agg #[.int .i64 a0_0, .slice A0_1 l0_1.length c0_1]] rfl AQ ?_; (with_reducible refine (impl_TableOk.calls k a0_0 _ _ l0_1 true _ ?side1 ?side2 A3.out).mono ?_); (case side1 => exact SC HR0_1); (case side2 => exact HC0_1.out); rintro e w12 ⟨rfl, hb⟩; refine ⟨_, rfl, ?_⟩; have n_ : _ ∧ _ ∧ _ := ⟨AsM (blk_below (BD BK634) hb), AsM (blk_below (BD BK635) hb), AsM (below_step BG hb)⟩; clear BK634 BK635 HB; obtain ⟨BK634, BK635, HB⟩ := n_; (try clear hb); (try clear hb2); (try clear hk); (try clear hi); obtain ⟨hcz13_0, hcz13_1, hfz13_0, hfz13_1⟩ := bk2 BK634.out) | (go_at_call 23; (with_reducible refine (impl_within.calls a1 0 (wrap64 (a0_0 - 1)) true _ A5.out).mono ?_); rintro e w' ⟨rfl, ⟨nd, rfl⟩⟩; (try (rw [drewN_self w12]; generalize hq_ : World.drewN w12 _ = w12; have n0_ : Aside0 (w12.heap[gb634]? = some (.cells #[.int .i64 a0_0, .slice A0_1 l0_1.length c0_1] 25 (0, 0))) := ⟨by rw [← hq_]; exact (BD BK634)⟩; have n1_ : Aside0 (w12.heap[gb635]? = some (.cells #[.int .i64 0, .slice none 0 0] 25 (0, 0))) := ⟨by rw [← hq_]; exact (BD BK635)⟩; have n2_ : Aside0 (Below w.heap.size w w12) := ⟨by rw [← hq_]; exact BG⟩; clear BK634 BK635 HB hq_; have BK634 := n0_; have BK635 := n1_; have HB := n2_; clear n0_ n1_ n2_)); obtain ⟨hcz13_0, hcz13_1, hfz13_0, hfz13_1⟩ := bk2 BK634.out) | ((with_reducible refine gate_callee (f := 36) rfl ?_); refine goesL_ (some 20) rfl rfl Try.func36 (by kernel_rfl) rfl #[.agg #[.int .i64 a0_0, .slice A0_1 l0_1.length c0_1], .int .i64 a1] rfl AQ ?_; (with_reducible refine (impl_Table_opened.calls k a0_0 _ _ l0_1 a1 t638 t639 _ ?side1 ?side2 A7.out).mono ?_); (case side1 => exact SC HR0_1); (case side2 => exact HC0_1.out); rintro e w14 ⟨v640, rfl, ho0, hb⟩; refine ⟨_, rfl, ?_⟩; have n_ : _ ∧ _ ∧ _ ∧ _ := ⟨AsM (Kd.R_lower ho0 (below_size BG)), AsM (blk_below (BD BK634) hb), AsM (blk_below (BD BK635) hb), AsM (below_step BG hb)⟩; clear BK634 BK635 HB; obtain ⟨HO641, BK634, BK635, HB⟩ := n_; (try clear hb); (try clear hb2); (try clear hk); (try clear hi); (try clear ho0); obtain ⟨hcz15_0, hcz15_1, hfz15_0, hfz15_1⟩ := bk2 BK635.out; obtain ⟨Ao16, co16, eo16⟩ := Kd.R_slice HO641.out; subst eo16))
   refine bodyPost_ret (results_ct rfl _ _ gb635 25 #[.int .i64 t638, .slice Ao16 t639.length co16] (0, 0) _ rfl (by refine PX ?_; refine blk_put (cs := #[.int .i64 t638, .slice none 0 0]) ?_ 1 _ rfl; refine PX ?_; refine blk_put (cs := #[.int .i64 0, .slice none 0 0]) ?_ 0 _ rfl; exact BD BK635) Try.underlying25 rfl (by kernel_rfl)) rfl ?_
   exact ⟨_, ER, by refine PRx ?_; exact Kd.R_mono (FR (FR (Kd.R_types HO641.out BK635.out (by decide)))) (fun _ hk => trivial), BG⟩
  ·replace c6 := Bool.eq_false_iff.mpr c6
   subst c6
   replace H := IN H
   simp only [Option.some.injEq, Prod.mk.injEq] at H
   obtain ⟨rfl, rfl, rfl⟩ := H
   go_enter Try.func16, Try.ntmps16
   go_wp2_with (first | ((with_reducible refine gate_dst (N := 2) rfl ?_); refine box_event ?hg (N := 2) ?hd (cs := #[.int .i64 a0_0, .slice A0_1 l0_1.length c0_1]) (t := 25) ?hr ?_; (case hd => rfl); (case hg => rfl); (case hr => first | (go_simp; done) | (go_simp; rfl)); intro gb634 hg w17 hbox hb; have n_ : _ ∧ _ ∧ _ ∧ _ := ⟨AsM (below_step BL hb), AsM (hbox), AsM ((GL : w.heap.size ≤ gb634)), AsM ((GL : w.heap.size ≤ gb634))⟩; clear HB; obtain ⟨HB, BK634, GW634, GE634⟩ := n_; clear hb hbox hg) | ((with_reducible refine gate_dst (N := 4) rfl ?_); refine box_event ?hg (N := 4) ?hd (cs := #[.int .i64 0, .slice none 0 0]) (t := 25) ?hr ?_; (case hd => rfl); (case hg => rfl); (case hr => first | (go_simp; done) | (go_simp; rfl)); intro gb635 hg w18 hbox hb; have n_ : _ ∧ _ ∧ _ ∧ _ ∧ _ ∧ _ ∧ _ := ⟨AsM (blk_below (BD BK634) hb), AsM (below_step BG hb), AsM (hbox), AsM ((GM : w.heap.size ≤ gb635)), AsM ((GM : w.heap.size ≤ gb635)), AsM ((by rw [hg]; exact Nat.ne_of_lt (blk_lt (BD BK634)) : gb634 ≠ gb635)), AsM ((by rw [hg]; exact Nat.ne_of_gt (blk_lt (BD BK634)) : gb635 ≠ gb634))⟩; clear BK634 HB; obtain ⟨BK634, HB, BK635, GW635, GE635, NB634_635, NB635_634⟩ := n_; clear hb hbox hg; have hnb19 := NB634_635.out; have hnc19 := NB635_634.out; obtain ⟨hcz20_0, hcz20_1, hfz20_0, hfz20_1⟩ := bk2 BK634.out) | ((with_reducible refine gate_callee (f := 7) rfl ?_); refine goesL_ (some 7) rfl rfl Try.func7 (by kernel_rfl) rfl #[.agg #[.int .i64 a0_0, .slice A0_1 l0_1.length c0_1]] rfl AQ ?_; (with_reducible refine (impl_TableOk.calls k a0_0 _ _ l0_1 true _ ?side1 ?side2 A3.out).mono ?_); (case side1 => exact SC HR0_1); (case side2 => exact HC0_1.out); rintro e w21 ⟨rfl, hb⟩; refine ⟨_, rfl, ?_⟩; have n_ : _ ∧ _ ∧ _ := ⟨AsM (blk_below (BD BK634) hb), AsM (blk_below (BD BK635) hb), AsM (below_step BG hb)⟩; clear BK634 BK635 HB; obtain ⟨BK634, BK635, HB⟩ := n_; (try clear hb); (try clear hb2); (try clear hk); (try clear hi); obtain ⟨hcz22_0, hcz22_1, hfz22_0, hfz22_1⟩ := bk2 BK634.out) | (go_at_call 23; (with_reducible refine (impl_within.calls a1 0 (wrap64 (a0_0 - 1)) false _ A5.out).mono ?_); rintro e w' ⟨rfl, ⟨nd, rfl⟩⟩; (try (rw [drewN_self w21]; generalize hq_ : World.drewN w21 _ = w21; have n0_ : Aside0 (w21.heap[gb634]? = some (.cells #[.int .i64 a0_0, .slice A0_1 l0_1.length c0_1] 25 (0, 0))) := ⟨by rw [← hq_]; exact (BD BK634)⟩; have n1_ : Aside0 (w21.heap[gb635]? = some (.cells #[.int .i64 0, .slice none 0 0] 25 (0, 0))) := ⟨by rw [← hq_]; exact (BD BK635)⟩; have n2_ : Aside0 (Below w.heap.size w w21) := ⟨by rw [← hq_]; exact BG⟩; clear BK634 BK635 HB hq_; have BK634 := n0_; have BK635 := n1_; have HB := n2_; clear n0_ n1_ n2_)); obtain ⟨hcz22_0, hcz22_1, hfz22_0, hfz22_1⟩ := bk2 BK634.out; obtain ⟨hcz23_0, hcz23_1, hfz23_0, hfz23_1⟩ := bk2 BK635.out))
   refine bodyPost_ret (results_ct rfl _ _ gb635 25 #[.int .i64 0, .slice none 0 0] (0, 0) _ rfl (by refine PX ?_; refine blk_put (cs := #[.int .i64 0, .slice none 0 0]) ?_ 1 _ rfl; refine PX ?_; refine blk_put (cs := #[.int .i64 0, .slice none 0 0]) ?_ 0 _ rfl; exact BD BK635) Try.underlying25 rfl (by kernel_rfl)) rfl ?_
   exact ⟨_, ER, by first | exact Kd.R_nil _ _ _ _ _ | exact Kd.N_nil _ _ _ _ _ | exact Kd.V_nil _ _ _ _ _ | exact Kd.Q_nil _ _ _ _ _ | exact Kd.S_nil _ _ _ _ _, BG⟩
 ·replace c4 := Bool.eq_false_iff.mpr c4
  subst c4
  replace H := IN H
  simp only [Option.some.injEq, Prod.mk.injEq] at H
  obtain ⟨rfl, rfl, rfl⟩ := H
  go_enter Try.func16, Try.ntmps16
  go_wp2_with (first | ((with_reducible refine gate_dst (N := 2) rfl ?_); refine box_event ?hg (N := 2) ?hd (cs := #[.int .i64 a0_0, .slice A0_1 l0_1.length c0_1]) (t := 25) ?hr ?_; (case hd => rfl); (case hg => rfl); (case hr => first | (go_simp; done) | (go_simp; rfl)); intro gb634 hg w24 hbox hb; have n_ : _ ∧ _ ∧ _ ∧ _ := ⟨AsM (below_step BL hb), AsM (hbox), AsM ((GL : w.heap.size ≤ gb634)), AsM ((GL : w.heap.size ≤ gb634))⟩; clear HB; obtain ⟨HB, BK634, GW634, GE634⟩ := n_; clear hb hbox hg) | ((with_reducible refine gate_dst (N := 4) rfl ?_); refine box_event ?hg (N := 4) ?hd (cs := #[.int .i64 0, .slice none 0 0]) (t := 25) ?hr ?_; (case hd => rfl); (case hg => rfl); (case hr => first | (go_simp; done) | (go_simp; rfl)); intro gb635 hg w25 hbox hb; have n_ : _ ∧ _ ∧ _ ∧ _ ∧ _ ∧ _ ∧ _ := ⟨AsM (blk_below (BD BK634) hb), AsM (below_step BG hb), AsM (hbox), AsM ((GM : w.heap.size ≤ gb635)), AsM ((GM : w.heap.size ≤ gb635)), AsM ((by rw [hg]; exact Nat.ne_of_lt (blk_lt (BD BK634)) : gb634 ≠ gb635)), AsM ((by rw [hg]; exact Nat.ne_of_gt (blk_lt (BD BK634)) : gb635 ≠ gb634))⟩; clear BK634 HB; obtain ⟨BK634, HB, BK635, GW635, GE635, NB634_635, NB635_634⟩ := n_; clear hb hbox hg; have hnb26 := NB634_635.out; have hnc26 := NB635_634.out; obtain ⟨hcz27_0, hcz27_1, hfz27_0, hfz27_1⟩ := bk2 BK634.out) | ((with_reducible refine gate_callee (f := 7) rfl ?_); refine goesL_ (some 7) rfl rfl Try.func7 (by kernel_rfl) rfl #[.agg #[.int .i64 a0_0, .slice A0_1 l0_1.length c0_1]] rfl AQ ?_; (with_reducible refine (impl_TableOk.calls k a0_0 _ _ l0_1 false _ ?side1 ?side2 A3.out).mono ?_); (case side1 => exact SC HR0_1); (case side2 => exact HC0_1.out); rintro e w28 ⟨rfl, hb⟩; refine ⟨_, rfl, ?_⟩; have n_ : _ ∧ _ ∧ _ := ⟨AsM (blk_below (BD BK634) hb), AsM (blk_below (BD BK635) hb), AsM (below_step BG hb)⟩; clear BK634 BK635 HB; obtain ⟨BK634, BK635, HB⟩ := n_; (try clear hb); (try clear hb2); (try clear hk); (try clear hi); obtain ⟨hcz29_0, hcz29_1, hfz29_0, hfz29_1⟩ := bk2 BK635.out))
  refine bodyPost_ret (results_ct rfl _ _ gb635 25 #[.int .i64 0, .slice none 0 0] (0, 0) _ rfl (by refine PX ?_; refine blk_put (cs := #[.int .i64 0, .slice none 0 0]) ?_ 1 _ rfl; refine PX ?_; refine blk_put (cs := #[.int .i64 0, .slice none 0 0]) ?_ 0 _ rfl; exact BD BK635) Try.underlying25 rfl (by kernel_rfl)) rfl ?_
  exact ⟨_, ER, by first | exact Kd.R_nil _ _ _ _ _ | exact Kd.N_nil _ _ _ _ _ | exact Kd.V_nil _ _ _ _ _ | exact Kd.Q_nil _ _ _ _ _ | exact Kd.S_nil _ _ _ _ _, BG⟩
mutual
def impl_Chain.j0 : Nat → Int → List ByteArray → Bool → Int → List (S49) → Option (List ByteArray)
 | 0, _, _, _, _, _ => none
 | k + 1, x1, x5, x27, x643000, x643001 => if x27 = true then (some x5) else ((impl_DummyKey.f x1).bind fun t649 => ((impl_Table_place.f k x643000 x643001 t649 (⟨#[]⟩ : ByteArray)).bind fun bt650 => (if 0 ≤ (wrap64 (bt650.1 + 1)) then (if (wrap64 (bt650.1 + 1)) ≤ (x643001.length : Int) then ((some (x643001.drop ((wrap64 (bt650.1 + 1)) : Int).toNat : List (S49))).bind fun y652 => (impl_Chain.l0 k x5 y652 (y652.length : Int) 0)) else (none)) else (none))))
def impl_Chain.l0 : Nat → List ByteArray → List (S49) → Int → Int → Option (List ByteArray)
 | 0, _, _, _, _ => none
 | k + 1, x5, x41, x42, x43 => if x43 < x42 then (if 0 ≤ x43 then (if x43 < (x41.length : Int) then (if ((rd_T49 x41 x43).f1).toList = ([] : List UInt8) then (some x5) else (if x5.length < 8796093022208 then (impl_Chain.l0 k (x5 ++ [(rd_T49 x41 x43).f1]) x41 x42 (wrap64 (x43 + 1))) else (none))) else (none)) else (none)) else (some x5)
end
def impl_Chain.f (k : Nat) (a0_0 : Int) (l0_1 : List (S49)) (a1 : Int) : Option (List ByteArray) := (some (([] : List ByteArray) : List ByteArray)).bind fun y643 => ((impl_TableOk.f k a0_0 l0_1).bind fun t646 => (if t646 = true then ((impl_within.f a1 0 (wrap64 (a0_0 - 1))).bind fun t647 => (if t647 = true then ((impl_Table_isOpen.f k a0_0 l0_1 a1).bind fun t648 => (impl_Chain.j0 k a1 y643 (!t648) a0_0 l0_1)) else (impl_Chain.j0 k a1 y643 true a0_0 l0_1))) else (impl_Chain.j0 k a1 y643 true a0_0 l0_1)))
theorem impl_Chain.mono_l : ∀ k, (∀ y0 y1 y2 y3 y4, LeO (impl_Chain.j0 k y0 y1 y2 y3 y4) (impl_Chain.j0 (k + 1) y0 y1 y2 y3 y4)) ∧ (∀ y0 y1 y2 y3, LeO (impl_Chain.l0 k y0 y1 y2 y3) (impl_Chain.l0 (k + 1) y0 y1 y2 y3))
 | 0 => ⟨fun _ _ _ _ _ r h => by simp [impl_Chain.j0] at h, fun _ _ _ _ r h => by simp [impl_Chain.l0] at h⟩
 | k + 1 => by
  obtain ⟨ih0, ih1⟩ := impl_Chain.mono_l k
  refine ⟨?_, ?_⟩
  ·intro y0 y1 y2 y3 y4
   unfold impl_Chain.j0
   repeat' first | (with_reducible first | exact ih0 _ _ _ _ _ | exact ih1 _ _ _ _ | exact impl_TableOk.mono _ _ _ | exact impl_Table_isOpen.mono _ _ _ _ | exact impl_Table_place.mono _ _ _ _ _ | exact LeO.refl _ | exact LeO.none _ | refine LeO.ite ?_ ?_ | refine LeO.bind ?_ (fun _ => ?_)) | exact ih0 _ _ _ _ _ | exact ih1 _ _ _ _ | exact impl_TableOk.mono _ _ _ | exact impl_Table_isOpen.mono _ _ _ _ | exact impl_Table_place.mono _ _ _ _ _ | exact LeO.none _ | refine LeO.ite ?_ ?_ | refine LeO.bind ?_ (fun _ => ?_)
  ·intro y0 y1 y2 y3
   unfold impl_Chain.l0
   repeat' first | (with_reducible first | exact ih0 _ _ _ _ _ | exact ih1 _ _ _ _ | exact impl_TableOk.mono _ _ _ | exact impl_Table_isOpen.mono _ _ _ _ | exact impl_Table_place.mono _ _ _ _ _ | exact LeO.refl _ | exact LeO.none _ | refine LeO.ite ?_ ?_ | refine LeO.bind ?_ (fun _ => ?_)) | exact ih0 _ _ _ _ _ | exact ih1 _ _ _ _ | exact impl_TableOk.mono _ _ _ | exact impl_Table_isOpen.mono _ _ _ _ | exact impl_Table_place.mono _ _ _ _ _ | exact LeO.none _ | refine LeO.ite ?_ ?_ | refine LeO.bind ?_ (fun _ => ?_)
theorem impl_Chain.mono : ∀ a0 a1 a2 k, LeO (impl_Chain.f k a0 a1 a2) (impl_Chain.f (k + 1) a0 a1 a2) := by
 intro a0 a1 a2 k
 obtain ⟨ih0, ih1⟩ := impl_Chain.mono_l k
 unfold impl_Chain.f
 repeat' first | (with_reducible first | exact ih0 _ _ _ _ _ | exact ih1 _ _ _ _ | exact impl_TableOk.mono _ _ _ | exact impl_Table_isOpen.mono _ _ _ _ | exact impl_Table_place.mono _ _ _ _ _ | exact LeO.refl _ | exact LeO.none _ | refine LeO.ite ?_ ?_ | refine LeO.bind ?_ (fun _ => ?_)) | exact ih0 _ _ _ _ _ | exact ih1 _ _ _ _ | exact impl_TableOk.mono _ _ _ | exact impl_Table_isOpen.mono _ _ _ _ | exact impl_Table_place.mono _ _ _ _ _ | exact LeO.none _ | refine LeO.ite ?_ ?_ | refine LeO.bind ?_ (fun _ => ?_)
def impl_Chain.T4 : Bool × List (List Nat × List Nat) := (true, [([], []), ([], []), ([1], [1]), ([2], [2]), ([0, 3, 2], [0, 3]), ([4], [4]), ([5], [5]), ([5], [5]), ([6, 4, 0, 1, 2, 3, 4, 5, 6], [6]), ([7, 8, 0, 1, 2, 3, 4, 5, 6, 7, 8], [7])])
def impl_Chain.B4 : List Nat := [0, 0, 2, 6, 15, 31, 63, 63, 127, 511]
theorem impl_Chain.tab4 : rtab .any (opsOf Try.f17 4) = impl_Chain.T4 := by kernel_rfl
theorem impl_Chain.bits4 : waitsOk impl_Chain.T4.2 impl_Chain.B4 = true := by kernel_rfl
theorem impl_Chain.z0 {P : Prop} (h : P := by repeat (first | (with_reducible first | exact HB.out | apply below_alloc | apply pw_below_drewN | apply below_drew1 | refine below_set ?_ GE642.out) | exact HB.out)) : P := h
set_option maxHeartbeats 8000000 in
set_option maxRecDepth 100000 in
theorem impl_Chain.calls (k : Nat) (a0_0 : Int) (A0_1 : Option Addr) (c0_1 : Nat) (l0_1 : List (S49)) (a1 : Int) (r : List ByteArray) (w : World) (hr0_1 : Kd.C k49 w A0_1 l0_1.length l0_1) (hc0_1 : l0_1.length ≤ c0_1) (h : impl_Chain.f k a0_0 l0_1 a1 = some r) :
  Calls Try.prog 17 #[.agg #[.int .i64 a0_0, .slice A0_1 l0_1.length c0_1], .int .i64 a1] w fun e w' => ∃ v0_ : Value, e = .returned (v0_) ∧ Kd.R Kd.string 9 w' w.heap.size (fun _ => True) v0_ r ∧ Below w.heap.size w w' := by
 have hu25 := Try.underlying25
 have hu49 := Try.underlying49
 have HR0_1 := Aside0.mk hr0_1
 have HC0_1 := Aside0.mk hc0_1
 clear hr0_1 hc0_1
 have HB := Aside0.mk (Below.refl w.heap.size w)
 have H : ((some (([] : List ByteArray) : List ByteArray)).bind fun y643 => ((impl_TableOk.f k a0_0 l0_1).bind fun t646 => (if t646 = true then ((impl_within.f a1 0 (wrap64 (a0_0 - 1))).bind fun t647 => (if t647 = true then ((impl_Table_isOpen.f k a0_0 l0_1 a1).bind fun t648 => (impl_Chain.j0 k a1 y643 (!t648) a0_0 l0_1)) else (impl_Chain.j0 k a1 y643 true a0_0 l0_1))) else (impl_Chain.j0 k a1 y643 true a0_0 l0_1)))) = some r := h
 clear h
 obtain ⟨y643, hy643⟩ : ∃ y_ : List ByteArray, y_ = (([] : List ByteArray)) := ⟨_, rfl⟩
 replace H : ((impl_TableOk.f k a0_0 l0_1).bind fun t646 => (if t646 = true then ((impl_within.f a1 0 (wrap64 (a0_0 - 1))).bind fun t647 => (if t647 = true then ((impl_Table_isOpen.f k a0_0 l0_1 a1).bind fun t648 => (impl_Chain.j0 k a1 y643 (!t648) a0_0 l0_1)) else (impl_Chain.j0 k a1 y643 true a0_0 l0_1))) else (impl_Chain.j0 k a1 y643 true a0_0 l0_1))) = some r := by first | (rw [hy643]; with_reducible exact H) | (have H2_ := (Option.bind_some _ _).symm.trans H; rw [hy643]; with_reducible exact H2_) | (have H2_ := (Option.bind_some _ _).symm.trans H; with_reducible exact H2_) | with_reducible exact H | (rw [hy643]; exact H) | exact H
 have Ny643 := Aside0.mk hy643
 clear hy643
 have HC3 := Aside0.mk H
 clear H
 go_enter Try.func17, Try.ntmps17
 go_upto_region 2 with (first | ((with_reducible refine gate_dst (N := 2) rfl ?_); refine box_event ?hg (N := 2) ?hd (cs := #[.int .i64 a0_0, .slice A0_1 l0_1.length c0_1]) (t := 25) ?hr ?_; (case hd => rfl); (case hg => rfl); (case hr => first | (go_simp; done) | (go_simp; rfl)); intro gb642 hg w4 hbox hb; have n_ : _ ∧ _ ∧ _ ∧ _ := ⟨AsM (below_step BL hb), AsM (hbox), AsM ((GL : w.heap.size ≤ gb642)), AsM ((GL : w.heap.size ≤ gb642))⟩; clear HB; obtain ⟨HB, BK642, GW642, GE642⟩ := n_; clear hb hbox hg) | ((with_reducible refine gate_dst (N := 10) rfl ?_); refine Kd.R_lit Kd.string _ 9 ?hg (N := 10) ?hd (xs := ([] : List ByteArray)) (inner := []) (ok := fun _ => True) (okp := fun _ => True) ?hr ?hp (fun _ hk => hk) trivial (Below.refl _ _) (Nat.le_refl _) (by simp) ?_; (case hd => rfl); (case hg => rfl); (case hr => first | (go_simp; done) | (go_simp; rfl)); (case hp => exact (Reps.none _ _)); intro v644 w5 ho6 hb hg_ hnew_; clear hg_ hnew_; (first | rw [← Ny643.out] at ho6 | (simp only [Int.reduceToNat] at ho6; rw [← Ny643.out] at ho6)); have n_ : _ ∧ _ ∧ _ := ⟨AsM (Kd.R_lower ho6 (below_size BG)), AsM (blk_below (BD BK642) hb), AsM (below_step BG hb)⟩; clear BK642 HB; obtain ⟨HO645, BK642, HB⟩ := n_; clear hb ho6))
 (try simp only [Act.put, List.setIfInBounds_toArray, List.set_cons_zero, List.set_cons_succ])
 go_cut [27] (fun v27 wc => ∃ (kq : Nat) (x27_2 : Bool), v27 = .bool x27_2 ∧ Aside0 (impl_Chain.j0 kq a1 y643 x27_2 a0_0 l0_1 = some r) ∧ Aside0 (kq ≤ k) ∧ Aside0 (Kd.R Kd.string 9 wc w.heap.size (fun _ => True) v644 y643) ∧ Aside0 (wc.heap[gb642]? = some (.cells #[.int .i64 a0_0, (.slice A0_1 l0_1.length c0_1)] 25 (0, 0))) ∧ Aside0 (Below w.heap.size w wc))
 case first =>
  have H := HC3.out
  clear HC3
  replace H := BS H
  obtain ⟨t646, A70, H⟩ := H
  have A7 := Aside0.mk A70
  clear A70
  by_cases c8 : t646 = true
  ·subst c8
   replace H := IP H
   replace H := BS H
   obtain ⟨t647, A90, H⟩ := H
   have A9 := Aside0.mk A90
   clear A90
   by_cases c10 : t647 = true
   ·subst c10
    replace H := IP H
    replace H := BS H
    obtain ⟨t648, A110, H⟩ := H
    have A11 := Aside0.mk A110
    clear A110
    have H' := Aside0.mk H
    clear H
    obtain ⟨hcz12_0, hcz12_1, hfz12_0, hfz12_1⟩ := bk2 BK642.out
    go_wp2_with (first | ((with_reducible refine gate_callee (f := 7) rfl ?_); refine goesL_ (some 12) rfl rfl Try.func7 (by kernel_rfl) rfl #[.agg #[.int .i64 a0_0, .slice A0_1 l0_1.length c0_1]] rfl AQ ?_; (with_reducible refine (impl_TableOk.calls k a0_0 _ _ l0_1 true _ ?side1 ?side2 A7.out).mono ?_); (case side1 => exact SC HR0_1); (case side2 => exact HC0_1.out); rintro e w13 ⟨rfl, hb⟩; refine ⟨_, rfl, ?_⟩; have n_ : _ ∧ _ ∧ _ := ⟨AsM (Kd.R_below (RD HO645) hb), AsM (blk_below (BD BK642) hb), AsM (below_step BG hb)⟩; clear HO645 BK642 HB; obtain ⟨HO645, BK642, HB⟩ := n_; (try clear hb); (try clear hb2); (try clear hk); (try clear hi); obtain ⟨hcz14_0, hcz14_1, hfz14_0, hfz14_1⟩ := bk2 BK642.out) | (go_at_call 23; (with_reducible refine (impl_within.calls a1 0 (wrap64 (a0_0 - 1)) true _ A9.out).mono ?_); rintro e w' ⟨rfl, ⟨nd, rfl⟩⟩) | (go_at_call 28; (with_reducible refine (impl_Table_isOpen.calls k a0_0 _ _ l0_1 a1 t648 _ ?side1 ?side2 A11.out).mono ?_); (case side1 => repeat (first | exact (Kd.C_below HR0_1.out BG) | (with_reducible refine Kd.C_alloc ?_ _) | (with_reducible refine Kd.C_drewN ?_ _) | (with_reducible refine Kd.C_drew ?_))); (case side2 => exact HC0_1.out); rintro e w15 ⟨rfl, hb⟩; have n_ : _ ∧ _ ∧ _ := ⟨AsM (Kd.R_below (RD HO645) hb), AsM (blk_below (BD BK642) hb), AsM (below_step BG hb)⟩; clear HO645 BK642 HB; obtain ⟨HO645, BK642, HB⟩ := n_; (try clear hb); (try clear hb2); (try clear hk); (try clear hi)))
    go_meet
    case rel => exact ⟨_, (!t648), RS, H', ⟨by first | omega | exact Nat.le_refl _⟩, ⟨RD HO645⟩, ⟨BD BK642⟩, ⟨impl_Chain.z0⟩⟩
   ·replace c10 := Bool.eq_false_iff.mpr c10
    subst c10
    replace H := IN H
    have H' := Aside0.mk H
    clear H
    obtain ⟨hcz16_0, hcz16_1, hfz16_0, hfz16_1⟩ := bk2 BK642.out
    go_wp2_with (first | ((with_reducible refine gate_callee (f := 7) rfl ?_); refine goesL_ (some 12) rfl rfl Try.func7 (by kernel_rfl) rfl #[.agg #[.int .i64 a0_0, .slice A0_1 l0_1.length c0_1]] rfl AQ ?_; (with_reducible refine (impl_TableOk.calls k a0_0 _ _ l0_1 true _ ?side1 ?side2 A7.out).mono ?_); (case side1 => exact SC HR0_1); (case side2 => exact HC0_1.out); rintro e w17 ⟨rfl, hb⟩; refine ⟨_, rfl, ?_⟩; have n_ : _ ∧ _ ∧ _ := ⟨AsM (Kd.R_below (RD HO645) hb), AsM (blk_below (BD BK642) hb), AsM (below_step BG hb)⟩; clear HO645 BK642 HB; obtain ⟨HO645, BK642, HB⟩ := n_; (try clear hb); (try clear hb2); (try clear hk); (try clear hi); obtain ⟨hcz18_0, hcz18_1, hfz18_0, hfz18_1⟩ := bk2 BK642.out) | (go_at_call 23; (with_reducible refine (impl_within.calls a1 0 (wrap64 (a0_0 - 1)) false _ A9.out).mono ?_); rintro e w' ⟨rfl, ⟨nd, rfl⟩⟩; (try (rw [drewN_self w17]; generalize hq_ : World.drewN w17 _ = w17; have n0_ : Aside0 (Kd.R Kd.string 9 w17 w.heap.size (fun _ => True) v644 y643) := ⟨by rw [← hq_]; exact (RD HO645)⟩; have n1_ : Aside0 (w17.heap[gb642]? = some (.cells #[.int .i64 a0_0, .slice A0_1 l0_1.length c0_1] 25 (0, 0))) := ⟨by rw [← hq_]; exact (BD BK642)⟩; have n2_ : Aside0 (Below w.heap.size w w17) := ⟨by rw [← hq_]; exact BG⟩; clear HO645 BK642 HB hq_; have HO645 := n0_; have BK642 := n1_; have HB := n2_; clear n0_ n1_ n2_))))
    go_meet
    case rel => exact ⟨_, (true), RS, H', ⟨by first | omega | exact Nat.le_refl _⟩, ⟨RD HO645⟩, ⟨BD BK642⟩, ⟨impl_Chain.z0⟩⟩
  ·replace c8 := Bool.eq_false_iff.mpr c8
   subst c8
   replace H := IN H
   have H' := Aside0.mk H
   clear H
   obtain ⟨hcz19_0, hcz19_1, hfz19_0, hfz19_1⟩ := bk2 BK642.out
   go_wp2_with (first | ((with_reducible refine gate_callee (f := 7) rfl ?_); refine goesL_ (some 12) rfl rfl Try.func7 (by kernel_rfl) rfl #[.agg #[.int .i64 a0_0, .slice A0_1 l0_1.length c0_1]] rfl AQ ?_; (with_reducible refine (impl_TableOk.calls k a0_0 _ _ l0_1 false _ ?side1 ?side2 A7.out).mono ?_); (case side1 => exact SC HR0_1); (case side2 => exact HC0_1.out); rintro e w20 ⟨rfl, hb⟩; refine ⟨_, rfl, ?_⟩; have n_ : _ ∧ _ ∧ _ := ⟨AsM (Kd.R_below (RD HO645) hb), AsM (blk_below (BD BK642) hb), AsM (below_step BG hb)⟩; clear HO645 BK642 HB; obtain ⟨HO645, BK642, HB⟩ := n_; (try clear hb); (try clear hb2); (try clear hk); (try clear hi)))
   go_meet
   case rel => exact ⟨_, (true), RS, H', ⟨by first | omega | exact Nat.le_refl _⟩, ⟨RD HO645⟩, ⟨BD BK642⟩, ⟨impl_Chain.z0⟩⟩
 case rest =>
  clear HC3
  try clear c1
  try clear p2
  try clear p6
  try clear c7
  try clear c8
  try clear c10
  try clear c17
  try clear hcz12_0
  try clear hcz12_1
  try clear hcz14_0
  try clear hcz14_1
  try clear hcz16_0
  try clear hcz16_1
  try clear hcz18_0
  try clear hcz18_1
  try clear hcz19_0
  try clear hcz19_1
  try clear hfz12_0
  try clear hfz12_1
  try clear hfz14_0
  try clear hfz14_1
  try clear hfz16_0
  try clear hfz16_1
  try clear hfz18_0
  try clear hfz18_1
  try clear hfz19_0
  try clear hfz19_1
  obtain ⟨kq, x27_2, rfl, HA, HJ2, HO_5, BK642, HB⟩ := hcut
  cases kq with
  | zero => exact absurd HA.out (by simp [impl_Chain.j0])
  | succ kj2 =>
   have H := HA.out
   clear HA
   simp only [impl_Chain.j0] at H
   by_cases c21 : x27_2 = true
   ·subst c21
    replace H := IP H
    obtain rfl := Option.some.inj H
    go_wp2
    go_ret
    exact ⟨_, ER, RD HO_5, BG⟩
   ·replace c21 := Bool.eq_false_iff.mpr c21
    subst c21
    replace H := IN H
    replace H := BS H
    obtain ⟨t649, A220, H⟩ := H
    have A22 := Aside0.mk A220
    clear A220
    replace H := BS H
    obtain ⟨⟨t650, t651⟩, A230, H⟩ := H
    have A23 := Aside0.mk A230
    clear A230
    obtain ⟨ji24, hji24⟩ : ∃ j_ : Int, (wrap64 (t650 + 1)) = j_ := ⟨_, rfl⟩
    replace H : (if 0 ≤ (ji24) then (if (ji24) ≤ (l0_1.length : Int) then ((some (l0_1.drop ((ji24) : Int).toNat : List (S49))).bind fun y652 => (impl_Chain.l0 kj2 y643 y652 (y652.length : Int) 0)) else (none)) else (none)) = some r := by first | (rw [hji24] at H; exact H) | (simp only [hji24] at H ⊢; exact H)
    (try rw [hji24] at A22)
    (try rw [hji24] at A23)
    have hji24w : (IntKind.i64.wrap (t650 + 1)) = ji24 := (i64_w _).trans hji24
    by_cases c25 : 0 ≤ (ji24)
    ·rw [if_pos c25] at H
     have c25b0 := eq_true c25
     have c25b1 : decide (0 ≤ (ji24)) = true := decide_eq_true c25
     clear c25
     by_cases c26 : (ji24) ≤ (l0_1.length : Int)
     ·rw [if_pos c26] at H
      have c26b0 := eq_true c26
      have c26b1 : decide ((ji24) ≤ (l0_1.length : Int)) = true := decide_eq_true c26
      clear c26
      obtain ⟨y652, hy652⟩ : ∃ y_ : List (S49), y_ = (l0_1.drop ((ji24) : Int).toNat) := ⟨_, rfl⟩
      replace H : (impl_Chain.l0 kj2 y643 y652 (y652.length : Int) 0) = some r := by first | (rw [hy652]; with_reducible exact H) | (have H2_ := (Option.bind_some _ _).symm.trans H; rw [hy652]; with_reducible exact H2_) | (have H2_ := (Option.bind_some _ _).symm.trans H; with_reducible exact H2_) | with_reducible exact H | (rw [hy652]; exact H) | exact H
      have Ny652 := Aside0.mk hy652
      clear hy652
      have H' := Aside0.mk H
      clear H
      try go_wp2
      have n_ : _ ∧ _ ∧ _ := ⟨AsM (Kd.R_drew HO_5.out), AsM (blk_drew BK642.out), AsM (below_drew1 HB.out)⟩
      clear HO_5 BK642 HB
      obtain ⟨HO_5, BK642, HB⟩ := n_
      refine start_ (n := 10) (S := fun w' => w'.cell? ⟨gb642, 0, none⟩ = some (.int .i64 a0_0) ∧ w'.cell? ⟨gb642, 1, none⟩ = some (.slice A0_1 l0_1.length c0_1)) (ds := []) #[false, false, false, false, false, false, false, false, false, false] (by kernel_rfl) rfl rfl ⟨(blk_cell BK642.out 0).trans rfl, (blk_cell BK642.out 1).trans rfl⟩ (fun hHeld => ?_); refine with_tabW impl_Chain.tab4 impl_Chain.bits4 (fun HT_ HW_ => ?_)
      generalize wc.drew = w27 at HO_5 BK642 HB hHeld ⊢
      refine PU (i := 1) (N := some 31) #[false, true, false, false, false, false, false, false, false, false] rfl rfl HT_ ?_
      refine PT (i := 0) (N := some 30) (tf 2 8) rfl rfl HT_ HW_ hHeld ?_
      refine one_ (i := 2) (N := some 32) (tf 3 7) rfl rfl (one_of HT_.out (by kernel_rfl)) (by decide) (fun K hK => ?_)
      refine goes_ Try.func38 (by kernel_rfl) rfl #[.int .i64 a1] (by rfl) rfl rfl AQ ?_
      with_reducible refine (impl_DummyKey.calls a1 t649 _ A22.out).mono ?_
      rintro e w' ⟨rfl, ⟨nd, rfl⟩⟩
      refine ⟨_, rfl, ?_⟩
      refine hK.out _ _ ⟨(blk_cell BK642.out 0).trans rfl, (blk_cell BK642.out 1).trans rfl⟩ (fun hHeld => ?_)
      clear hK K
      refine NM (some 32) ?_
      refine PU (i := 3) (N := some 33) (tf 4 6) rfl rfl HT_ ?_
      refine one_ (i := 4) (N := some 34) (tf 5 5) rfl rfl (one_of HT_.out (by kernel_rfl)) (by decide) (fun K hK => ?_)
      refine goes_ Try.func34 (by kernel_rfl) rfl #[.agg #[.int .i64 a0_0, .slice A0_1 l0_1.length c0_1], .agg #[.int .i64 t649, .string (⟨#[]⟩ : ByteArray)]] (by rfl) rfl rfl AQ ?_
      with_reducible refine (impl_Table_place.calls kj2 a0_0 _ _ l0_1 t649 (⟨#[]⟩ : ByteArray) t650 t651 _ ?side1 ?side2 A23.out).mono ?_
      (case side1 => repeat (first | exact (Kd.C_below HR0_1.out BG) | (with_reducible refine Kd.C_alloc ?_ _) | (with_reducible refine Kd.C_drewN ?_ _) | (with_reducible refine Kd.C_drew ?_)))
      (case side2 => exact HC0_1.out)
      rintro e w28 ⟨rfl, hb⟩
      refine ⟨_, rfl, ?_⟩
      have n_ : _ ∧ _ ∧ _ := ⟨AsM (Kd.R_below (RD HO_5) hb), AsM (blk_below (BD BK642) hb), AsM (below_step BG hb)⟩
      clear HO_5 BK642 HB
      obtain ⟨HO_5, BK642, HB⟩ := n_
      (try clear hb)
      (try clear hb2)
      (try clear hk)
      (try clear hi)
      refine hK.out _ _ ⟨(blk_cell BK642.out 0).trans rfl, (blk_cell BK642.out 1).trans rfl⟩ (fun hHeld => ?_)
      clear hK K
      refine NM (some 34) ?_
      refine PU (i := 5) (N := some 29) (tf 6 4) rfl rfl HT_ ?_
      refine PU (i := 6) (N := some 35) (tf 7 3) rfl rfl HT_ ?_
      refine PU (i := 7) (N := some 36) (tf 8 2) rfl rfl HT_ ?_
      refine PU (i := 8) (N := some 6) (tf 9 1) rfl rfl HT_ ?_
      refine PU (i := 9) (N := some 7) (tf 10 0) rfl rfl HT_ ?_
      refine done_ (done_of HT_.out (by kernel_rfl)) ?_
      obtain ⟨hcz29_0, hcz29_1, hfz29_0, hfz29_1⟩ := bk2 BK642.out
      have q30 : ((ji24) : Int) ≤ ((l0_1.length : Int) : Int) := of_decide_eq_true AS
      obtain ⟨i030, hi030, _, hsz30, _⟩ := info_parts info49
      have hroom30 : l0_1.length ≤ c0_1 := HC0_1.out
      have hC30 : Kd.C k49 _ A0_1 l0_1.length l0_1 := HR0_1.out
      have q030 : (0 : Int) ≤ ((ji24) : Int) := of_decide_eq_true AS
      have hcut30 := cut_from (P := Try.prog) 23 49 .i64 Try.underlying23 hi030 2 hsz30 A0_1 l0_1.length c0_1 (ji24) q030 q30
      have hr30 := Kd.C_drop (m := ((ji24) : Int).toNat) (c := c0_1) hC30 (by omega) hroom30
      obtain ⟨A30, hA30⟩ : ∃ A1, A1 = (if c0_1 = ((ji24) : Int).toNat then A0_1 else (A0_1 : Option Addr).map (·.add (((ji24) : Int).toNat * 2))) := ⟨_, rfl⟩
      obtain ⟨c30, hc30⟩ : ∃ c1, c1 = c0_1 - ((ji24) : Int).toNat := ⟨_, rfl⟩
      have hy30 : y652.length = l0_1.length - ((ji24) : Int).toNat := (by rw [Ny652.out, List.length_drop] <;> omega)
      rw [show (l0_1).drop ((ji24) : Int).toNat = y652 from Ny652.out.symm] at hr30
      replace hr30 : Kd.C k49 _ A30 y652.length y652 := (by rw [hA30]; exact hr30)
      rw [← hy30, ← hA30, ← hc30] at hcut30
      have HR655 := Aside0.mk hr30
      have HC655 := Aside0.mk (show y652.length ≤ c30 from by rw [hy30, hc30]; exact Nat.sub_le_sub_right hroom30 _)
      clear hr30 hC30 hroom30 hi030 hsz30 hc30
      have KY30 := Aside0.mk hy30
      have KA30 := Aside0.mk hA30
      clear hy30 hA30
      replace q30 := eq_true q30
      try go_wp2
      go_loopg [5, 43] kj2 (fun kq v5 v43 w' => ∃ (x5_2 : List ByteArray) (x43_2 : Int), v43 = .int .i64 x43_2 ∧ Aside0 (impl_Chain.l0 kq x5_2 y652 (y652.length : Int) x43_2 = some r) ∧ Aside0 (kq ≤ kj2) ∧ Aside0 (Kd.R Kd.string 9 w' w.heap.size (fun _ => True) v5 x5_2) ∧ Aside0 (w'.heap[gb642]? = some (.cells #[.int .i64 a0_0, (.slice A0_1 l0_1.length c0_1)] 25 (0, 0))) ∧ Aside0 (Below w.heap.size w w'))
      case atStart => exact ⟨(y643), (0), RS, H', ⟨Nat.le_refl _⟩, ⟨RD HO_5⟩, ⟨BD BK642⟩, ⟨impl_Chain.z0⟩⟩
      case round =>
       clear H'
       try clear c1
       try clear c2
       try clear p2
       try clear c3
       try clear q3
       try clear p6
       try clear c7
       try clear c8
       try clear c10
       try clear c17
       try clear c21
       try clear c25
       try clear c25b0
       try clear c25b1
       try clear c26
       try clear c26b0
       try clear c26b1
       try clear c30
       try clear q30
       try clear hcz12_0
       try clear hcz12_1
       try clear hcz14_0
       try clear hcz14_1
       try clear hcz16_0
       try clear hcz16_1
       try clear hcz18_0
       try clear hcz18_1
       try clear hcz19_0
       try clear hcz19_1
       try clear hcz29_0
       try clear hcz29_1
       try clear hfz12_0
       try clear hfz12_1
       try clear hfz14_0
       try clear hfz14_1
       try clear hfz16_0
       try clear hfz16_1
       try clear hfz18_0
       try clear hfz18_1
       try clear hfz19_0
       try clear hfz19_1
       try clear hfz29_0
       try clear hfz29_1
       try clear p2
       try clear p6
       try clear q030
       try clear q30
       obtain ⟨x5_2, x43_2, rfl, HA, HK2, HO_5, BK642, HB⟩ := hrel
       cases gk with
       | zero => exact absurd HA.out (by simp [impl_Chain.l0])
       | succ k2 =>
        have H := HA.out
        clear HA
        simp only [impl_Chain.l0] at H
        by_cases c31 : x43_2 < (y652.length : Int)
        ·rw [if_pos c31] at H
         have c31b0 : decide (x43_2 < (y652.length : Int)) = true := decide_eq_true c31
         clear c31
         by_cases c32 : 0 ≤ x43_2
         ·rw [if_pos c32] at H
          have c32b0 : decide (0 ≤ x43_2) = true := decide_eq_true c32
          clear c32
          by_cases c33 : x43_2 < (y652.length : Int)
          ·rw [if_pos c33] at H
           have c33b0 : decide (x43_2 < (y652.length : Int)) = true := decide_eq_true c33
           clear c33
           by_cases c34 : ((rd_T49 y652 x43_2).f1).toList = ([] : List UInt8)
           ·rw [if_pos c34] at H
            have c34b0 : (((rd_T49 y652 x43_2).f1).toList == ([] : List UInt8)) = true := beq_iff_eq.mpr c34
            have c34b1 : (((rd_T49 y652 x43_2).f1).toList != ([] : List UInt8)) = false := bne_eq_false_iff_eq.mpr c34
            clear c34
            obtain rfl := Option.some.inj H
            have p656 : 0 ≤ (x43_2 : Int) := of_decide_eq_true AS
            have q656 : x43_2 < (y652.length : Int) := of_decide_eq_true AS
            obtain ⟨ad656, e656, hx656_0, hx656_1⟩ := at_T49 HR655.out x43_2 p656 q656
            cases e656
            replace hx656_0 := (HB.out.cell (World.block_lt_of_cell? w _ hx656_0)).trans hx656_0
            replace hx656_1 := (HB.out.cell (World.block_lt_of_cell? w _ hx656_1)).trans hx656_1
            replace p656 := eq_true p656
            replace q656 := eq_true q656
            go_wp2_with (first | ((with_reducible refine gate_dst (N := 9) rfl ?_); refine box_event ?hg (N := 9) ?hd (cs := #[.int .i64 0, .string (⟨#[]⟩ : ByteArray)]) (t := 49) ?hr ?_; (case hd => rfl); (case hg => rfl); (case hr => first | (go_simp; done) | (go_simp; rfl)); intro gb657 hg w35 hbox hb; have n_ : _ ∧ _ ∧ _ ∧ _ ∧ _ ∧ _ ∧ _ ∧ _ := ⟨AsM (Kd.R_below (RD HO_5) hb), AsM (blk_below (BD BK642) hb), AsM (below_step BG hb), AsM (hbox), AsM ((GM : w.heap.size ≤ gb657)), AsM ((GM : w.heap.size ≤ gb657)), AsM ((by rw [hg]; exact Nat.ne_of_lt (blk_lt (BD BK642)) : gb642 ≠ gb657)), AsM ((by rw [hg]; exact Nat.ne_of_gt (blk_lt (BD BK642)) : gb657 ≠ gb642))⟩; clear HO_5 BK642 HB; obtain ⟨HO_5, BK642, HB, BK657, GW657, GE657, NB642_657, NB657_642⟩ := n_; clear hb hbox hg; have hnb36 := NB657_642.out; have hnc36 := NB642_657.out; obtain ⟨hcz37_0, hcz37_1, hfz37_0, hfz37_1⟩ := bk2 BK657.out))
            go_ret
            exact ⟨_, by first | rfl | (simp [errW_none, errW_some] <;> rfl) | (simp only [← hji24]; first | rfl | (simp [errW_none, errW_some] <;> rfl)) | (simp [*, errW_none, errW_some] <;> rfl), by refine PRx ?_; exact Kd.R_mono (FR (FR (Kd.R_types HO_5.out BK657.out (by decide)))) (fun _ hk => trivial), BG⟩
           ·rw [if_neg c34] at H
            have c34b0 : (((rd_T49 y652 x43_2).f1).toList == ([] : List UInt8)) = false := beq_eq_false_iff_ne.mpr c34
            have c34b1 : (((rd_T49 y652 x43_2).f1).toList != ([] : List UInt8)) = true := bne_iff_ne.mpr c34
            by_cases c38 : x5_2.length < 8796093022208
            ·rw [if_pos c38] at H
             have LMc38 := Aside0.mk c38
             clear c38
             obtain ⟨y658, hy658⟩ : ∃ y_ : List ByteArray, y_ = (x5_2 ++ [(rd_T49 y652 x43_2).f1]) := ⟨_, rfl⟩
             replace H : (impl_Chain.l0 k2 y658 y652 (y652.length : Int) (wrap64 (x43_2 + 1))) = some r := by first | (rw [hy658]; with_reducible exact H) | (have H2_ := (Option.bind_some _ _).symm.trans H; rw [hy658]; with_reducible exact H2_) | (have H2_ := (Option.bind_some _ _).symm.trans H; with_reducible exact H2_) | with_reducible exact H | (rw [hy658]; exact H) | exact H
             have Ny658 := Aside0.mk hy658
             clear hy658
             have H' := Aside0.mk H
             clear H
             have p656 : 0 ≤ (x43_2 : Int) := of_decide_eq_true AS
             have q656 : x43_2 < (y652.length : Int) := of_decide_eq_true AS
             obtain ⟨ad656, e656, hx656_0, hx656_1⟩ := at_T49 HR655.out x43_2 p656 q656
             cases e656
             replace hx656_0 := (HB.out.cell (World.block_lt_of_cell? w _ hx656_0)).trans hx656_0
             replace hx656_1 := (HB.out.cell (World.block_lt_of_cell? w _ hx656_1)).trans hx656_1
             replace p656 := eq_true p656
             replace q656 := eq_true q656
             go_wp2_with (first | ((with_reducible refine gate_dst (N := 9) rfl ?_); refine box_event ?hg (N := 9) ?hd (cs := #[.int .i64 0, .string (⟨#[]⟩ : ByteArray)]) (t := 49) ?hr ?_; (case hd => rfl); (case hg => rfl); (case hr => first | (go_simp; done) | (go_simp; rfl)); intro gb657 hg w39 hbox hb; have n_ : _ ∧ _ ∧ _ ∧ _ ∧ _ ∧ _ ∧ _ ∧ _ := ⟨AsM (Kd.R_below (RD HO_5) hb), AsM (blk_below (BD BK642) hb), AsM (below_step BG hb), AsM (hbox), AsM ((GM : w.heap.size ≤ gb657)), AsM ((GM : w.heap.size ≤ gb657)), AsM ((by rw [hg]; exact Nat.ne_of_lt (blk_lt (BD BK642)) : gb642 ≠ gb657)), AsM ((by rw [hg]; exact Nat.ne_of_gt (blk_lt (BD BK642)) : gb657 ≠ gb642))⟩; clear HO_5 BK642 HB; obtain ⟨HO_5, BK642, HB, BK657, GW657, GE657, NB642_657, NB657_642⟩ := n_; clear hb hbox hg; have hnb40 := NB657_642.out; have hnc40 := NB642_657.out; obtain ⟨hcz41_0, hcz41_1, hfz41_0, hfz41_1⟩ := bk2 BK657.out) | ((with_reducible refine gate_builtin (b := .append) (xs := #[.tmp 50, .tmp 53]) rfl ?_); at_builtin; refine Kd.R_append Kd.string (w0 := w) w.heap.size rfl (.tmp 50) (.tmp 53) 27 9 (.string ⟨#[]⟩) 16 rfl Try.underlying27 info9 rfl (by decide) (by omega) u5 x5_2 ((rd_T49 y652 x43_2).f1) [.string ((rd_T49 y652 x43_2).f1)] (fun _ => True) (fun _ => False) rfl (by first | (go_simp; done) | (go_simp; rfl)) ?aP (fun _ hk => hk.elim) ?aF ?aO ?aB ?aS ?aL ?_; (case aP => exact rfl); (case aB => exact BG); (case aF => exact (fun _ _ => trivial)); (case aO => exact (by refine PRx ?_; exact Kd.R_mono (FR (FR (Kd.R_types HO_5.out BK657.out (by decide)))) (fun _ hk => trivial))); (case aS => exact (below_size BG)); (case aL => have := LMc38.out; omega); intro v659 w42 ho hb hg hat; rw [← Ny658.out] at ho; have n_ : _ ∧ _ ∧ _ ∧ _ := ⟨AsM (blk_grown (g := gb642) (o := .cells #[.int .i64 a0_0, .slice A0_1 l0_1.length c0_1] 25 (0, 0)) (by refine PX ?_; refine blk_far ?_ NB642_657.out _; refine PX ?_; refine blk_far ?_ NB642_657.out _; exact BD BK642) hg (Kd.R_ne HO_5.out BK642.out (by decide))), AsM (blk_grown (g := gb657) (o := .cells #[.int .i64 ((rd_T49 y652 x43_2).f0), .string ((rd_T49 y652 x43_2).f1)] 49 (0, 0)) (by refine PX ?_; refine blk_put (cs := #[.int .i64 ((rd_T49 y652 x43_2).f0), .string (⟨#[]⟩ : ByteArray)]) ?_ 1 _ rfl; refine PX ?_; refine blk_put (cs := #[.int .i64 0, .string (⟨#[]⟩ : ByteArray)]) ?_ 0 _ rfl; exact BD BK657) hg (Kd.R_ne HO_5.out BK657.out (by decide))), AsM (hb), AsM (ho)⟩; clear BK642 BK657 HB HO_5; obtain ⟨BK642, BK657, HB, HO660⟩ := n_; clear ho hb hg hat))
             go_roundg k2
             case measure => have := HJ2.out; have := HK2.out; omega
             case rel => exact ⟨(y658), (wrap64 (x43_2 + 1)), RS, H', ⟨by have := HJ2.out; have := HK2.out; omega⟩, ⟨RD HO660⟩, ⟨BD BK642⟩, ⟨by repeat (first | (with_reducible first | exact HB.out | apply below_alloc | apply pw_below_drewN | apply below_drew1 | refine below_set ?_ GE642.out | refine below_set ?_ GE657.out) | exact HB.out)⟩⟩
            ·rw [if_neg c38] at H
             exact absurd H (by simp)
          ·rw [if_neg c33] at H
           exact absurd H (by simp)
         ·rw [if_neg c32] at H
          exact absurd H (by simp)
        ·rw [if_neg c31] at H
         have c31b0 : decide (x43_2 < (y652.length : Int)) = false := decide_eq_false c31
         clear c31
         obtain rfl := Option.some.inj H
         go_wp2
         go_ret
         exact ⟨_, by first | rfl | (simp [errW_none, errW_some] <;> rfl) | (simp only [← hji24]; first | rfl | (simp [errW_none, errW_some] <;> rfl)) | (simp [*, errW_none, errW_some] <;> rfl), RD HO_5, BG⟩
     ·rw [if_neg c26] at H
      exact absurd H (by simp)
    ·rw [if_neg c25] at H
     exact absurd H (by simp)
end Go.Proofs.Ytbjlldjkkdiblaa.G
