/- Part 4 of the claim FnExactAdd, merged by pack.py (this session's program) out of: the print's words, cut to what is needed; texts that gen.py printed (it runs the kit's print in place); texts of this session. -/
import Derived.Shelf.Spec.SlicesInsert
import Derived.Shelf.Spec.SlicesInsertGrow
import Derived.Test.YtcdflbbohnjegaaKFnExactAdd0
import Derived.Test.YtcdflbbohnjegaaKFnExactAdd1
import Derived.Test.YtcdflbbohnjegaaKFnExactAdd3
namespace Go.Proofs.Ytcdflbbohnjegaa.Ins
end Go.Proofs.Ytcdflbbohnjegaa.Ins
namespace Go.Proofs.Ytcdflbbohnjegaa.Man
end Go.Proofs.Ytcdflbbohnjegaa.Man
namespace Go.Proofs.Ytcdflbbohnjegaa.Sh
end Go.Proofs.Ytcdflbbohnjegaa.Sh
namespace Go.Proofs.Ytcdflbbohnjegaa.G
open Go.RowKit Go.Proofs.YtcdflbbohnjegaaW.PrintWords Go.Proofs.YtcdflbbohnjegaaW.PrintLast Go.Proofs.YtcdflbbohnjegaaW.PrintMore Go.Proofs.Ytcdflbbohnjegaa.Sh
attribute [local go_sem] max2_int min2_int max_two min_two max_three min_three max_four min_four
set_option linter.unusedVariables false
set_option linter.unusedSimpArgs false
attribute [local go_sem high] eqA50
mutual
def impl_TableOk.j0 : Nat → Bool → Int → List (S50) → Option (Bool)
 | 0, _, _, _ => none
 | k + 1, x24, x201000, x201001 => if x24 = true then (some false) else (impl_TableOk.l0 k x201001 (x201001.length : Int) 0 x201000 x201001)
def impl_TableOk.l0 : Nat → List (S50) → Int → Int → Int → List (S50) → Option (Bool)
 | 0, _, _, _, _, _ => none
 | k + 1, x26, x27, x28, x201000, x201001 => if x28 < x27 then (if 0 ≤ x28 then (if x28 < (x26.length : Int) then (if x28 > 0 then (if 0 ≤ (wrap64 (x28 - 1)) then (if (wrap64 (x28 - 1)) < (x201001.length : Int) then ((impl_compareEntries.f k ((rd_T50 x201001 (wrap64 (x28 - 1))).f0) ((rd_T50 x201001 (wrap64 (x28 - 1))).f1) ((rd_T50 x26 x28).f0) ((rd_T50 x26 x28).f1)).bind fun t206 => (impl_TableOk.j2 k x26 x27 x28 (decide (t206 ≥ 0)) x201000 x201001 ((rd_T50 x26 x28).f0) ((rd_T50 x26 x28).f1))) else (none)) else (none)) else (impl_TableOk.j2 k x26 x27 x28 false x201000 x201001 ((rd_T50 x26 x28).f0) ((rd_T50 x26 x28).f1))) else (none)) else (none)) else (impl_TableOk.l1 k 0 x201000 0 x201000 x201001)
def impl_TableOk.j2 : Nat → List (S50) → Int → Int → Bool → Int → List (S50) → Int → ByteArray → Option (Bool)
 | 0, _, _, _, _, _, _, _, _ => none
 | k + 1, x26, x27, x28, x45, x201000, x201001, x205000, x205001 => if x45 = true then (some false) else (if x205001.toList = ([] : List UInt8) then (impl_TableOk.l0 k x26 x27 (wrap64 (x28 + 1)) x201000 x201001) else ((impl_ItemOk.f k x205001 (⟨#[]⟩ : ByteArray) 0).bind fun t207 => (if t207 = true then ((impl_entryOf.f k x205001).bind fun bt208 => (if (!(x205000 == bt208.1) || (!(x205001.toList == bt208.2.toList))) = true then (some false) else (impl_TableOk.l0 k x26 x27 (wrap64 (x28 + 1)) x201000 x201001))) else (some false))))
def impl_TableOk.l1 : Nat → Int → Int → Int → Int → List (S50) → Option (Bool)
 | 0, _, _, _, _, _ => none
 | k + 1, x5, x65, x66, x201000, x201001 => if x66 < x65 then ((impl_Table_isOpen.f k x201000 x201001 x66).bind fun t212 => (if t212 = true then ((impl_Parent.f k x66).bind fun t213 => ((impl_Table_isOpen.f k x201000 x201001 t213).bind fun t214 => (if t214 = true then (impl_TableOk.l1 k (wrap64 (x5 + 1)) x65 (wrap64 (x66 + 1)) x201000 x201001) else (some false)))) else (impl_TableOk.l1 k x5 x65 (wrap64 (x66 + 1)) x201000 x201001))) else ((impl_Table_isOpen.f k x201000 x201001 0).bind fun t210 => (if t210 = true then ((impl_Table_keysIn.f k x201000 x201001).bind fun t211 => (some (x5 == (wrap64 ((x201001.length : Int) - t211))))) else (some false)))
end
def impl_TableOk.f (k : Nat) (a0_0 : Int) (l0_1 : List (S50)) : Option (Bool) := (impl_within.f a0_0 1 64).bind fun t201 => (if t201 = true then (if (Go.bits .and .i64 a0_0 (wrap64 (a0_0 - 1))) = 0 then ((impl_Table_keysIn.f k a0_0 l0_1).bind fun t202 => (impl_TableOk.j0 k (decide (t202 > 200)) a0_0 l0_1)) else (impl_TableOk.j0 k true a0_0 l0_1)) else (impl_TableOk.j0 k true a0_0 l0_1))
theorem impl_TableOk.mono_l : ∀ k, (∀ y0 y1 y2, LeO (impl_TableOk.j0 k y0 y1 y2) (impl_TableOk.j0 (k + 1) y0 y1 y2)) ∧ (∀ y0 y1 y2 y3 y4, LeO (impl_TableOk.l0 k y0 y1 y2 y3 y4) (impl_TableOk.l0 (k + 1) y0 y1 y2 y3 y4)) ∧ (∀ y0 y1 y2 y3 y4 y5 y6 y7, LeO (impl_TableOk.j2 k y0 y1 y2 y3 y4 y5 y6 y7) (impl_TableOk.j2 (k + 1) y0 y1 y2 y3 y4 y5 y6 y7)) ∧ (∀ y0 y1 y2 y3 y4, LeO (impl_TableOk.l1 k y0 y1 y2 y3 y4) (impl_TableOk.l1 (k + 1) y0 y1 y2 y3 y4))
 | 0 => ⟨fun _ _ _ r h => by simp [impl_TableOk.j0] at h, fun _ _ _ _ _ r h => by simp [impl_TableOk.l0] at h, fun _ _ _ _ _ _ _ _ r h => by simp [impl_TableOk.j2] at h, fun _ _ _ _ _ r h => by simp [impl_TableOk.l1] at h⟩
 | k + 1 => by
  obtain ⟨ih0, ih1, ih2, ih3⟩ := impl_TableOk.mono_l k
  refine ⟨?_, ?_, ?_, ?_⟩
  ·intro y0 y1 y2
   unfold impl_TableOk.j0
   repeat' first | (with_reducible first | exact ih0 _ _ _ | exact ih1 _ _ _ _ _ | exact ih2 _ _ _ _ _ _ _ _ | exact ih3 _ _ _ _ _ | exact impl_ItemOk.mono _ _ _ _ | exact impl_Parent.mono _ _ | exact impl_Table_isOpen.mono _ _ _ _ | exact impl_Table_keysIn.mono _ _ _ | exact impl_compareEntries.mono _ _ _ _ _ | exact impl_entryOf.mono _ _ | exact LeO.refl _ | exact LeO.none _ | refine LeO.ite ?_ ?_ | refine LeO.bind ?_ (fun _ => ?_)) | exact ih0 _ _ _ | exact ih1 _ _ _ _ _ | exact ih2 _ _ _ _ _ _ _ _ | exact ih3 _ _ _ _ _ | exact impl_ItemOk.mono _ _ _ _ | exact impl_Parent.mono _ _ | exact impl_Table_isOpen.mono _ _ _ _ | exact impl_Table_keysIn.mono _ _ _ | exact impl_compareEntries.mono _ _ _ _ _ | exact impl_entryOf.mono _ _ | exact LeO.none _ | refine LeO.ite ?_ ?_ | refine LeO.bind ?_ (fun _ => ?_)
  ·intro y0 y1 y2 y3 y4
   unfold impl_TableOk.l0
   repeat' first | (with_reducible first | exact ih0 _ _ _ | exact ih1 _ _ _ _ _ | exact ih2 _ _ _ _ _ _ _ _ | exact ih3 _ _ _ _ _ | exact impl_ItemOk.mono _ _ _ _ | exact impl_Parent.mono _ _ | exact impl_Table_isOpen.mono _ _ _ _ | exact impl_Table_keysIn.mono _ _ _ | exact impl_compareEntries.mono _ _ _ _ _ | exact impl_entryOf.mono _ _ | exact LeO.refl _ | exact LeO.none _ | refine LeO.ite ?_ ?_ | refine LeO.bind ?_ (fun _ => ?_)) | exact ih0 _ _ _ | exact ih1 _ _ _ _ _ | exact ih2 _ _ _ _ _ _ _ _ | exact ih3 _ _ _ _ _ | exact impl_ItemOk.mono _ _ _ _ | exact impl_Parent.mono _ _ | exact impl_Table_isOpen.mono _ _ _ _ | exact impl_Table_keysIn.mono _ _ _ | exact impl_compareEntries.mono _ _ _ _ _ | exact impl_entryOf.mono _ _ | exact LeO.none _ | refine LeO.ite ?_ ?_ | refine LeO.bind ?_ (fun _ => ?_)
  ·intro y0 y1 y2 y3 y4 y5 y6 y7
   unfold impl_TableOk.j2
   repeat' first | (with_reducible first | exact ih0 _ _ _ | exact ih1 _ _ _ _ _ | exact ih2 _ _ _ _ _ _ _ _ | exact ih3 _ _ _ _ _ | exact impl_ItemOk.mono _ _ _ _ | exact impl_Parent.mono _ _ | exact impl_Table_isOpen.mono _ _ _ _ | exact impl_Table_keysIn.mono _ _ _ | exact impl_compareEntries.mono _ _ _ _ _ | exact impl_entryOf.mono _ _ | exact LeO.refl _ | exact LeO.none _ | refine LeO.ite ?_ ?_ | refine LeO.bind ?_ (fun _ => ?_)) | exact ih0 _ _ _ | exact ih1 _ _ _ _ _ | exact ih2 _ _ _ _ _ _ _ _ | exact ih3 _ _ _ _ _ | exact impl_ItemOk.mono _ _ _ _ | exact impl_Parent.mono _ _ | exact impl_Table_isOpen.mono _ _ _ _ | exact impl_Table_keysIn.mono _ _ _ | exact impl_compareEntries.mono _ _ _ _ _ | exact impl_entryOf.mono _ _ | exact LeO.none _ | refine LeO.ite ?_ ?_ | refine LeO.bind ?_ (fun _ => ?_)
  ·intro y0 y1 y2 y3 y4
   unfold impl_TableOk.l1
   repeat' first | (with_reducible first | exact ih0 _ _ _ | exact ih1 _ _ _ _ _ | exact ih2 _ _ _ _ _ _ _ _ | exact ih3 _ _ _ _ _ | exact impl_ItemOk.mono _ _ _ _ | exact impl_Parent.mono _ _ | exact impl_Table_isOpen.mono _ _ _ _ | exact impl_Table_keysIn.mono _ _ _ | exact impl_compareEntries.mono _ _ _ _ _ | exact impl_entryOf.mono _ _ | exact LeO.refl _ | exact LeO.none _ | refine LeO.ite ?_ ?_ | refine LeO.bind ?_ (fun _ => ?_)) | exact ih0 _ _ _ | exact ih1 _ _ _ _ _ | exact ih2 _ _ _ _ _ _ _ _ | exact ih3 _ _ _ _ _ | exact impl_ItemOk.mono _ _ _ _ | exact impl_Parent.mono _ _ | exact impl_Table_isOpen.mono _ _ _ _ | exact impl_Table_keysIn.mono _ _ _ | exact impl_compareEntries.mono _ _ _ _ _ | exact impl_entryOf.mono _ _ | exact LeO.none _ | refine LeO.ite ?_ ?_ | refine LeO.bind ?_ (fun _ => ?_)
theorem impl_TableOk.mono : ∀ a0 a1 k, LeO (impl_TableOk.f k a0 a1) (impl_TableOk.f (k + 1) a0 a1) := by
 intro a0 a1 k
 obtain ⟨ih0, ih1, ih2, ih3⟩ := impl_TableOk.mono_l k
 unfold impl_TableOk.f
 repeat' first | (with_reducible first | exact ih0 _ _ _ | exact ih1 _ _ _ _ _ | exact ih2 _ _ _ _ _ _ _ _ | exact ih3 _ _ _ _ _ | exact impl_ItemOk.mono _ _ _ _ | exact impl_Parent.mono _ _ | exact impl_Table_isOpen.mono _ _ _ _ | exact impl_Table_keysIn.mono _ _ _ | exact impl_compareEntries.mono _ _ _ _ _ | exact impl_entryOf.mono _ _ | exact LeO.refl _ | exact LeO.none _ | refine LeO.ite ?_ ?_ | refine LeO.bind ?_ (fun _ => ?_)) | exact ih0 _ _ _ | exact ih1 _ _ _ _ _ | exact ih2 _ _ _ _ _ _ _ _ | exact ih3 _ _ _ _ _ | exact impl_ItemOk.mono _ _ _ _ | exact impl_Parent.mono _ _ | exact impl_Table_isOpen.mono _ _ _ _ | exact impl_Table_keysIn.mono _ _ _ | exact impl_compareEntries.mono _ _ _ _ _ | exact impl_entryOf.mono _ _ | exact LeO.none _ | refine LeO.ite ?_ ?_ | refine LeO.bind ?_ (fun _ => ?_)
def impl_TableOk.T6 : Bool × List (List Nat × List Nat) := (true, [([], []), ([0], [0]), ([1], [1]), ([2], [2]), ([3, 2], [2, 3]), ([2], [2]), ([5, 2], [2, 5]), ([4, 6, 2], [2, 4, 6]), ([7, 2], [2, 7]), ([2], [2]), ([8, 9, 2, 2], [2, 8, 9]), ([10, 2], [2, 10]), ([2, 11], [2, 11])])
def impl_TableOk.B6 : List Nat := [0, 1, 3, 7, 15, 7, 39, 127, 255, 7, 1023, 2047, 4095]
theorem impl_TableOk.tab6 : rtab .any (opsOf Try.f14 6) = impl_TableOk.T6 := by kernel_rfl
theorem impl_TableOk.bits6 : waitsOk impl_TableOk.T6.2 impl_TableOk.B6 = true := by kernel_rfl
def impl_TableOk.T8 : Bool × List (List Nat × List Nat) := (true, [([], []), ([0], [0]), ([1], [1]), ([2], [2]), ([3], [3]), ([4, 3], [3, 4]), ([5, 3], [3, 5]), ([6, 3, 3], [3, 6]), ([7, 3], [3, 7]), ([8, 7, 3], [3, 8]), ([9], [9]), ([9], [9]), ([11, 9], [9, 11]), ([12, 9, 9], [9, 12]), ([10, 13, 9], [9, 10, 13]), ([9, 14, 3], [3, 9, 14]), ([3, 15], [3, 15])])
def impl_TableOk.B8 : List Nat := [0, 1, 3, 7, 15, 31, 63, 127, 255, 511, 1023, 1023, 3071, 7167, 16383, 32767, 65535]
theorem impl_TableOk.tab8 : rtab .any (opsOf Try.f14 8) = impl_TableOk.T8 := by kernel_rfl
theorem impl_TableOk.bits8 : waitsOk impl_TableOk.T8.2 impl_TableOk.B8 = true := by kernel_rfl
def impl_TableOk.T20 : Bool × List (List Nat × List Nat) := (true, [([], []), ([0], [0]), ([1, 1], [1]), ([2], [2]), ([2], [2]), ([4, 2], [2, 4]), ([5, 2], [2, 5]), ([2], [2]), ([7, 2, 2], [2, 7]), ([6, 8, 2], [2, 6, 8]), ([3, 9, 2], [2, 3, 9]), ([2, 10], [2, 10]), ([11, 8, 0, 1, 2, 3, 4, 5, 6, 7, 8, 9, 10, 11], [11])])
def impl_TableOk.B20 : List Nat := [0, 1, 3, 7, 7, 23, 55, 7, 135, 503, 1023, 2047, 4095]
theorem impl_TableOk.tab20 : rtab .any (opsOf Try.f14 20) = impl_TableOk.T20 := by kernel_rfl
theorem impl_TableOk.bits20 : waitsOk impl_TableOk.T20.2 impl_TableOk.B20 = true := by kernel_rfl
set_option maxHeartbeats 8000000 in
set_option maxRecDepth 100000 in
theorem impl_TableOk.calls (k : Nat) (a0_0 : Int) (A0_1 : Option Addr) (c0_1 : Nat) (l0_1 : List (S50)) (r : Bool) (w : World) (hr0_1 : Kd.C k50 w A0_1 l0_1.length l0_1) (hc0_1 : l0_1.length ≤ c0_1) (h : impl_TableOk.f k a0_0 l0_1 = some r) :
  Calls Try.prog 14 #[.agg #[.int .i64 a0_0, .slice A0_1 l0_1.length c0_1]] w fun e w' => e = .returned (.bool r) ∧ Below w.heap.size w w' := by
 have hu29 := Try.underlying29
 have hu50 := Try.underlying50
 have hu56 := Try.underlying56
 have HR0_1 := Aside0.mk hr0_1
 have HC0_1 := Aside0.mk hc0_1
 clear hr0_1 hc0_1
 have HB := Aside0.mk (Below.refl w.heap.size w)
 have H : ((impl_within.f a0_0 1 64).bind fun t201 => (if t201 = true then (if (Go.bits .and .i64 a0_0 (wrap64 (a0_0 - 1))) = 0 then ((impl_Table_keysIn.f k a0_0 l0_1).bind fun t202 => (impl_TableOk.j0 k (decide (t202 > 200)) a0_0 l0_1)) else (impl_TableOk.j0 k true a0_0 l0_1)) else (impl_TableOk.j0 k true a0_0 l0_1))) = some r := h
 clear h
 have HC2 := Aside0.mk H
 clear H
 go_enter Try.func14, Try.ntmps14
 go_upto_region 1 with (first | ((with_reducible refine gate_dst (N := 1) rfl ?_); (try (refine gate_guard (by rfl) ?_; dsimp only)); refine box_event ?hg (N := 1) ?hd (cs := #[.int .i64 a0_0, .slice A0_1 l0_1.length c0_1]) (t := 29) ?hr ?_; (case hd => rfl); (case hg => rfl); (case hr => first | (go_simp; done) | (go_simp; rfl)); intro gb200 hg w3 hbox hb; have n0_ := Aside0.mk (below_step BL hb); have n1_ := Aside0.mk (hbox); have n2_ := Aside0.mk ((by rw [hg]; exact (below_size BL) : w.heap.size ≤ gb200)); have n3_ := Aside0.mk ((by rw [hg]; exact (below_size BL) : w.heap.size ≤ gb200)); clear HB; have HB := n0_; have BK200 := n1_; have GW200 := n2_; have GE200 := n3_; clear n0_ n1_ n2_ n3_; clear hb hbox hg))
 (try simp only [Act.put, List.setIfInBounds_toArray, List.set_cons_zero, List.set_cons_succ])
 go_cut [24] (fun v24 wc => ∃ (kq : Nat) (x24_1 : Bool), v24 = .bool x24_1 ∧ Aside0 (impl_TableOk.j0 kq x24_1 a0_0 l0_1 = some r) ∧ Aside0 (kq ≤ k) ∧ Aside0 (wc.heap[gb200]? = some (.cells #[.int .i64 a0_0, (.slice A0_1 l0_1.length c0_1)] 29 (0, 0))) ∧ Aside0 (Below w.heap.size w wc))
 case first =>
  have H := HC2.out
  clear HC2
  replace H := BS H
  obtain ⟨t201, A40, H⟩ := H
  have A4 := Aside0.mk A40
  clear A40
  by_cases c5 : t201 = true
  ·subst c5
   replace H := IP H
   by_cases c6 : (Go.bits .and .i64 a0_0 (wrap64 (a0_0 - 1))) = 0
   ·rw [if_pos c6] at H
    have c6b0 : ((Go.bits .and .i64 a0_0 (wrap64 (a0_0 - 1))) == 0) = true := beq_iff_eq.mpr c6
    have c6b1 : ((Go.bits .and .i64 a0_0 (wrap64 (a0_0 - 1))) != 0) = false := bne_eq_false_iff_eq.mpr c6
    clear c6
    (first | rw [c6b0] | (simp only [i64_w, i32_w]; rw [c6b0]) | skip)
    replace H := BS H
    obtain ⟨t202, A70, H⟩ := H
    have A7 := Aside0.mk A70
    clear A70
    have H' := Aside0.mk H
    clear H
    obtain ⟨hcz8_0, hcz8_1, hfz8_0, hfz8_1⟩ := bk2 BK200.out
    go_wp2_with (first | ((with_reducible refine gate_callee (f := 44) rfl ?_); refine goesL_ (some 9) rfl rfl Try.func44 (by kernel_rfl) rfl #[.int .i64 a0_0, .int .i64 1, .int .i64 64] rfl AQ ?_; (with_reducible refine (impl_within.calls a0_0 1 64 true _ A4.out).mono ?_); rintro e w' ⟨rfl, ⟨nd, rfl⟩⟩; refine ⟨_, rfl, ?_⟩) | (go_at_call 45; (with_reducible refine (impl_Table_keysIn.calls k a0_0 _ _ l0_1 t202 _ ?side1 ?side2 A7.out).mono ?_); (case side1 => repeat (first | exact (Kd.C_below HR0_1.out BG) | (with_reducible refine Kd.C_alloc ?_ _) | (with_reducible refine Kd.C_drewN ?_ _) | (with_reducible refine Kd.C_drew ?_))); (case side2 => exact HC0_1.out); rintro e w9 ⟨rfl, hb⟩; have n0_ := Aside0.mk (blk_below (BD BK200) hb); have n1_ := Aside0.mk (below_step BG hb); clear BK200; clear HB; have BK200 := n0_; have HB := n1_; clear n0_ n1_; (try clear hb); (try clear hb2); (try clear hk); (try clear hi)))
    go_meet
    case rel => exact ⟨_, (decide (t202 > 200)), RS, H', ⟨by first | omega | exact Nat.le_refl _⟩, ⟨by (with_reducible repeat (first | refine blk_drewN ?_ _ | refine blk_drew ?_ | refine blk_alloc ?_ _)); exact BK200.out⟩, ⟨by repeat (first | (with_reducible first | exact HB.out | apply below_alloc | apply pw_below_drewN | apply below_drew1 | refine below_set ?_ GE200.out) | exact HB.out)⟩⟩
   ·rw [if_neg c6] at H
    have c6b0 : ((Go.bits .and .i64 a0_0 (wrap64 (a0_0 - 1))) == 0) = false := beq_eq_false_iff_ne.mpr c6
    have c6b1 : ((Go.bits .and .i64 a0_0 (wrap64 (a0_0 - 1))) != 0) = true := bne_iff_ne.mpr c6
    (first | rw [c6b0] | (simp only [i64_w, i32_w]; rw [c6b0]) | skip)
    have H' := Aside0.mk H
    clear H
    obtain ⟨hcz10_0, hcz10_1, hfz10_0, hfz10_1⟩ := bk2 BK200.out
    go_wp2_with (first | ((with_reducible refine gate_callee (f := 44) rfl ?_); refine goesL_ (some 9) rfl rfl Try.func44 (by kernel_rfl) rfl #[.int .i64 a0_0, .int .i64 1, .int .i64 64] rfl AQ ?_; (with_reducible refine (impl_within.calls a0_0 1 64 true _ A4.out).mono ?_); rintro e w' ⟨rfl, ⟨nd, rfl⟩⟩; refine ⟨_, rfl, ?_⟩))
    go_meet
    case rel => exact ⟨_, (true), RS, H', ⟨by first | omega | exact Nat.le_refl _⟩, ⟨by (with_reducible repeat (first | refine blk_drewN ?_ _ | refine blk_drew ?_ | refine blk_alloc ?_ _)); exact BK200.out⟩, ⟨by repeat (first | (with_reducible first | exact HB.out | apply below_alloc | apply pw_below_drewN | apply below_drew1 | refine below_set ?_ GE200.out) | exact HB.out)⟩⟩
  ·replace c5 := Bool.eq_false_iff.mpr c5
   subst c5
   replace H := IN H
   have H' := Aside0.mk H
   clear H
   obtain ⟨hcz11_0, hcz11_1, hfz11_0, hfz11_1⟩ := bk2 BK200.out
   go_wp2_with (first | ((with_reducible refine gate_callee (f := 44) rfl ?_); refine goesL_ (some 9) rfl rfl Try.func44 (by kernel_rfl) rfl #[.int .i64 a0_0, .int .i64 1, .int .i64 64] rfl AQ ?_; (with_reducible refine (impl_within.calls a0_0 1 64 false _ A4.out).mono ?_); rintro e w' ⟨rfl, ⟨nd, rfl⟩⟩; refine ⟨_, rfl, ?_⟩; (try (rw [drewN_self w3]; generalize hq_ : World.drewN w3 _ = w3; have n0_ : Aside0 (w3.heap[gb200]? = some (.cells #[.int .i64 a0_0, .slice A0_1 l0_1.length c0_1] 29 (0, 0))) := ⟨by rw [← hq_]; exact (by (with_reducible repeat (first | refine blk_drewN ?_ _ | refine blk_drew ?_ | refine blk_alloc ?_ _)); exact BK200.out)⟩; have n1_ : Aside0 (Below w.heap.size w w3) := ⟨by rw [← hq_]; exact BG⟩; clear BK200 HB hq_; have BK200 := n0_; have HB := n1_; clear n0_ n1_))))
   go_meet
   case rel => exact ⟨_, (true), RS, H', ⟨by first | omega | exact Nat.le_refl _⟩, ⟨by (with_reducible repeat (first | refine blk_drewN ?_ _ | refine blk_drew ?_ | refine blk_alloc ?_ _)); exact BK200.out⟩, ⟨by repeat (first | (with_reducible first | exact HB.out | apply below_alloc | apply pw_below_drewN | apply below_drew1 | refine below_set ?_ GE200.out) | exact HB.out)⟩⟩
 case rest =>
  clear HC2
  try clear c1
  try clear p2
  try clear c4
  try clear c5
  try clear c6
  try clear c6b0
  try clear c6b1
  try clear p6
  try clear hcz10_0
  try clear hcz10_1
  try clear hcz11_0
  try clear hcz11_1
  try clear hcz8_0
  try clear hcz8_1
  try clear hfz10_0
  try clear hfz10_1
  try clear hfz11_0
  try clear hfz11_1
  try clear hfz8_0
  try clear hfz8_1
  obtain ⟨kq, x24_1, rfl, HA, HJ1, BK200, HB⟩ := hcut
  cases kq with
  | zero => exact absurd HA.out (by simp [impl_TableOk.j0])
  | succ kj1 =>
   have H := HA.out
   clear HA
   simp only [impl_TableOk.j0] at H
   by_cases c12 : x24_1 = true
   ·subst c12
    replace H := IP H
    obtain rfl := Option.some.inj H
    go_wp2
    go_ret
    exact ⟨by first | rfl | (simp [errW_none, errW_some] <;> rfl) | (simp [*, errW_none, errW_some] <;> rfl), BG⟩
   ·replace c12 := Bool.eq_false_iff.mpr c12
    subst c12
    replace H := IN H
    have H' := Aside0.mk H
    clear H
    obtain ⟨hcz13_0, hcz13_1, hfz13_0, hfz13_1⟩ := bk2 BK200.out
    go_wp2
    go_loopg [28] kj1 (fun kq v28 w' => ∃ (x28_2 : Int), v28 = .int .i64 x28_2 ∧ Aside0 (impl_TableOk.l0 kq l0_1 (l0_1.length : Int) x28_2 a0_0 l0_1 = some r) ∧ Aside0 (kq ≤ kj1) ∧ Aside0 (w'.heap[gb200]? = some (.cells #[.int .i64 a0_0, (.slice A0_1 l0_1.length c0_1)] 29 (0, 0))) ∧ Aside0 (Below w.heap.size w w'))
    case atStart => exact ⟨(0), RS, H', ⟨Nat.le_refl _⟩, ⟨by (with_reducible repeat (first | refine blk_drewN ?_ _ | refine blk_drew ?_ | refine blk_alloc ?_ _)); exact BK200.out⟩, ⟨by repeat (first | (with_reducible first | exact HB.out | apply below_alloc | apply pw_below_drewN | apply below_drew1 | refine below_set ?_ GE200.out) | exact HB.out)⟩⟩
    case round =>
     clear H'
     try clear c1
     try clear p2
     try clear c4
     try clear c5
     try clear c6
     try clear c6b0
     try clear c6b1
     try clear p6
     try clear c12
     try clear hcz10_0
     try clear hcz10_1
     try clear hcz11_0
     try clear hcz11_1
     try clear hcz13_0
     try clear hcz13_1
     try clear hcz8_0
     try clear hcz8_1
     try clear hfz10_0
     try clear hfz10_1
     try clear hfz11_0
     try clear hfz11_1
     try clear hfz13_0
     try clear hfz13_1
     try clear hfz8_0
     try clear hfz8_1
     try clear p2
     try clear p6
     obtain ⟨x28_2, rfl, HA, HK2, BK200, HB⟩ := hrel
     cases gk with
     | zero => exact absurd HA.out (by simp [impl_TableOk.l0])
     | succ k2 =>
      have H := HA.out
      clear HA
      simp only [impl_TableOk.l0] at H
      by_cases c14 : x28_2 < (l0_1.length : Int)
      ·rw [if_pos c14] at H
       have c14b0 : decide (x28_2 < (l0_1.length : Int)) = true := decide_eq_true c14
       clear c14
       by_cases c15 : 0 ≤ x28_2
       ·rw [if_pos c15] at H
        have c15b0 : decide (0 ≤ x28_2) = true := decide_eq_true c15
        clear c15
        by_cases c16 : x28_2 < (l0_1.length : Int)
        ·rw [if_pos c16] at H
         have c16b0 : decide (x28_2 < (l0_1.length : Int)) = true := decide_eq_true c16
         clear c16
         have HC17 := Aside0.mk H
         clear H
         have p203 : 0 ≤ (x28_2 : Int) := of_decide_eq_true AS
         have q203 : x28_2 < (l0_1.length : Int) := of_decide_eq_true AS
         obtain ⟨ad203, e203, hx203_0, hx203_1⟩ := at_T50 HR0_1.out x28_2 p203 q203
         cases e203
         replace hx203_0 := (HB.out.cell (World.block_lt_of_cell? w _ hx203_0)).trans hx203_0
         replace hx203_1 := (HB.out.cell (World.block_lt_of_cell? w _ hx203_1)).trans hx203_1
         replace p203 := eq_true p203
         replace q203 := eq_true q203
         go_upto_region 6 with (first | ((with_reducible refine gate_dst (N := 4) rfl ?_); (try (refine gate_guard (by rfl) ?_; dsimp only)); refine box_event ?hg (N := 4) ?hd (cs := #[.int .i64 0, .string (⟨#[]⟩ : ByteArray)]) (t := 50) ?hr ?_; (case hd => rfl); (case hg => rfl); (case hr => first | (go_simp; done) | (go_simp; rfl)); intro gb204 hg w18 hbox hb; have n0_ := Aside0.mk (blk_below (BD BK200) hb); have n1_ := Aside0.mk (below_step BG hb); have n2_ := Aside0.mk (hbox); have n3_ := Aside0.mk ((by rw [hg]; exact (below_size BG) : w.heap.size ≤ gb204)); have n4_ := Aside0.mk ((by rw [hg]; exact (below_size BG) : w.heap.size ≤ gb204)); have n5_ := Aside0.mk ((by rw [hg]; exact Nat.ne_of_lt (blk_lt (BD BK200)) : gb200 ≠ gb204)); have n6_ := Aside0.mk ((by rw [hg]; exact Nat.ne_of_gt (blk_lt (BD BK200)) : gb204 ≠ gb200)); clear BK200; clear HB; have BK200 := n0_; have HB := n1_; have BK204 := n2_; have GW204 := n3_; have GE204 := n4_; have NB200_204 := n5_; have NB204_200 := n6_; clear n0_ n1_ n2_ n3_ n4_ n5_ n6_; clear hb hbox hg; have hnb19 := NB204_200.out; have hnc19 := NB200_204.out; obtain ⟨hcz20_0, hcz20_1, hfz20_0, hfz20_1⟩ := bk2 BK204.out))
         (try simp only [Act.put, List.setIfInBounds_toArray, List.set_cons_zero, List.set_cons_succ])
         go_cut [45] (fun v45 wc => ∃ (kq : Nat) (x45_16 : Bool), v45 = .bool x45_16 ∧ Aside0 (impl_TableOk.j2 kq l0_1 (l0_1.length : Int) x28_2 x45_16 a0_0 l0_1 ((rd_T50 l0_1 x28_2).f0) ((rd_T50 l0_1 x28_2).f1) = some r) ∧ Aside0 (kq ≤ k2) ∧ Aside0 (wc.heap[gb200]? = some (.cells #[.int .i64 a0_0, (.slice (some ad203) l0_1.length c0_1)] 29 (0, 0))) ∧ Aside0 (wc.heap[gb204]? = some (.cells #[.int .i64 ((rd_T50 l0_1 x28_2).f0), .string ((rd_T50 l0_1 x28_2).f1)] 50 (0, 0))) ∧ Aside0 (Below w.heap.size w wc))
         case first =>
          have H := HC17.out
          clear HC17
          by_cases c21 : x28_2 > 0
          ·rw [if_pos c21] at H
           have c21b0 : decide (0 < x28_2) = true := decide_eq_true c21
           clear c21
           (first | rw [c21b0] | (simp only [i64_w, i32_w]; rw [c21b0]) | skip)
           obtain ⟨ji22, hji22⟩ : ∃ j_ : Int, (wrap64 (x28_2 - 1)) = j_ := ⟨_, rfl⟩
           replace H : (if 0 ≤ (ji22) then (if (ji22) < (l0_1.length : Int) then ((impl_compareEntries.f k2 ((rd_T50 l0_1 (ji22)).f0) ((rd_T50 l0_1 (ji22)).f1) ((rd_T50 l0_1 x28_2).f0) ((rd_T50 l0_1 x28_2).f1)).bind fun t206 => (impl_TableOk.j2 k2 l0_1 (l0_1.length : Int) x28_2 (decide (t206 ≥ 0)) a0_0 l0_1 ((rd_T50 l0_1 x28_2).f0) ((rd_T50 l0_1 x28_2).f1))) else (none)) else (none)) = some r := by first | (rw [hji22] at H; exact H) | (simp only [hji22] at H ⊢; exact H)
           have hji22w : (IntKind.i64.wrap (x28_2 - 1)) = ji22 := (i64_w _).trans hji22
           by_cases c23 : 0 ≤ (ji22)
           ·rw [if_pos c23] at H
            have c23b0 : decide (0 ≤ (ji22)) = true := decide_eq_true c23
            clear c23
            by_cases c24 : (ji22) < (l0_1.length : Int)
            ·rw [if_pos c24] at H
             have c24b0 : decide ((ji22) < (l0_1.length : Int)) = true := decide_eq_true c24
             clear c24
             replace H := BS H
             obtain ⟨t206, A250, H⟩ := H
             have A25 := Aside0.mk A250
             clear A250
             have H' := Aside0.mk H
             clear H
             try go_wp2
             have n0_ : Aside0 (((w18.setCell ⟨gb204, 0, none⟩ (.int .i64 ((rd_T50 l0_1 x28_2).f0))).setCell ⟨gb204, 1, none⟩ (.string ((rd_T50 l0_1 x28_2).f1))).heap[gb200]? = some (.cells #[.int .i64 a0_0, .slice (some ad203) l0_1.length c0_1] 29 (0, 0))) := ⟨by (with_reducible repeat (first | refine blk_drewN ?_ _ | refine blk_drew ?_ | refine blk_alloc ?_ _)); refine blk_far ?_ NB200_204.out _; (with_reducible repeat (first | refine blk_drewN ?_ _ | refine blk_drew ?_ | refine blk_alloc ?_ _)); refine blk_far ?_ NB200_204.out _; (with_reducible repeat (first | refine blk_drewN ?_ _ | refine blk_drew ?_ | refine blk_alloc ?_ _)); exact BK200.out⟩
             have n1_ : Aside0 (((w18.setCell ⟨gb204, 0, none⟩ (.int .i64 ((rd_T50 l0_1 x28_2).f0))).setCell ⟨gb204, 1, none⟩ (.string ((rd_T50 l0_1 x28_2).f1))).heap[gb204]? = some (.cells #[.int .i64 ((rd_T50 l0_1 x28_2).f0), .string ((rd_T50 l0_1 x28_2).f1)] 50 (0, 0))) := ⟨by (with_reducible repeat (first | refine blk_drewN ?_ _ | refine blk_drew ?_ | refine blk_alloc ?_ _)); refine blk_put (cs := #[.int .i64 ((rd_T50 l0_1 x28_2).f0), .string (⟨#[]⟩ : ByteArray)]) ?_ 1 _ rfl; (with_reducible repeat (first | refine blk_drewN ?_ _ | refine blk_drew ?_ | refine blk_alloc ?_ _)); refine blk_put (cs := #[.int .i64 0, .string (⟨#[]⟩ : ByteArray)]) ?_ 0 _ rfl; (with_reducible repeat (first | refine blk_drewN ?_ _ | refine blk_drew ?_ | refine blk_alloc ?_ _)); exact BK204.out⟩
             have n2_ : Aside0 (Below w.heap.size w ((w18.setCell ⟨gb204, 0, none⟩ (.int .i64 ((rd_T50 l0_1 x28_2).f0))).setCell ⟨gb204, 1, none⟩ (.string ((rd_T50 l0_1 x28_2).f1)))) := ⟨by repeat (first | (with_reducible first | exact HB.out | apply below_alloc | apply pw_below_drewN | apply below_drew1 | refine below_set ?_ GE200.out | refine below_set ?_ GE204.out) | exact HB.out)⟩
             (try clear BK200)
             (try clear BK204)
             (try clear HB)
             generalize ((w18.setCell ⟨gb204, 0, none⟩ (.int .i64 ((rd_T50 l0_1 x28_2).f0))).setCell ⟨gb204, 1, none⟩ (.string ((rd_T50 l0_1 x28_2).f1))) = w26 at n0_ n1_ n2_ ⊢
             have BK200 := n0_
             have BK204 := n1_
             have HB := n2_
             clear n0_ n1_ n2_
             have n0_ := Aside0.mk (blk_drew BK200.out)
             have n1_ := Aside0.mk (blk_drew BK204.out)
             have n2_ := Aside0.mk (below_drew1 HB.out)
             clear BK200
             clear BK204
             clear HB
             have BK200 := n0_
             have BK204 := n1_
             have HB := n2_
             clear n0_ n1_ n2_
             have p205 : 0 ≤ ((ji22) : Int) := of_decide_eq_true AS
             have q205 : (ji22) < (l0_1.length : Int) := of_decide_eq_true AS
             obtain ⟨ad205, e205, hx205_0, hx205_1⟩ := at_T50 HR0_1.out (ji22) p205 q205
             have hw205_1 := hx205_1
             have hw205_0 := hx205_0
             obtain rfl : ad203 = ad205 := (by injection e205)
             replace hx205_0 := (HB.out.cell (World.block_lt_of_cell? w _ hx205_0)).trans hx205_0
             replace hx205_1 := (HB.out.cell (World.block_lt_of_cell? w _ hx205_1)).trans hx205_1
             replace p205 := eq_true p205
             replace q205 := eq_true q205
             refine start_ (n := 13) (S := fun w' => w'.cell? ⟨gb200, 0, none⟩ = some (.int .i64 a0_0) ∧ w'.cell? ⟨gb200, 1, none⟩ = some (.slice (some ad203) l0_1.length c0_1) ∧ w'.cell? ⟨gb204, 0, none⟩ = some (.int .i64 ((rd_T50 l0_1 x28_2).f0)) ∧ w'.cell? ⟨gb204, 1, none⟩ = some (.string ((rd_T50 l0_1 x28_2).f1)) ∧ w'.cell? (ad203.add (((ji22)).toNat * 2)) = some (.int .i64 ((rd_T50 l0_1 (ji22)).f0)) ∧ w'.cell? ⟨(ad203.add (((ji22)).toNat * 2)).block, (ad203.add (((ji22)).toNat * 2)).off + 1, none⟩ = some (.string ((rd_T50 l0_1 (ji22)).f1))) (ds := []) #[false, false, false, false, false, false, false, false, false, false, false, false, false] (by kernel_rfl) rfl rfl ⟨(blk_cell BK200.out 0).trans rfl, (blk_cell BK200.out 1).trans rfl, (blk_cell BK204.out 0).trans rfl, (blk_cell BK204.out 1).trans rfl, ((HB.out.cell (World.block_lt_of_cell? w _ hw205_0)).trans hw205_0), ((HB.out.cell (World.block_lt_of_cell? w _ hw205_1)).trans hw205_1)⟩ (fun hHeld => ?_); refine with_tabW impl_TableOk.tab6 impl_TableOk.bits6 (fun HT_ HW_ => ?_)
             generalize w26.drew = w27 at BK200 BK204 HB hx205_0 hx205_1 hHeld ⊢
             refine PU (i := 0) (N := some 33) (tf 1 12) rfl rfl HT_ ?_
             refine PU (i := 1) (N := some 34) (tf 2 11) rfl rfl HT_ ?_
             refine PU (i := 2) (N := some 35) (tf 3 10) rfl rfl HT_ ?_
             refine PU (i := 3) (N := some 36) (tf 4 9) rfl rfl HT_ ?_
             refine PU (i := 5) (N := some 38) #[true, true, true, true, false, true, false, false, false, false, false, false, false] rfl rfl HT_ ?_
             refine PU (i := 6) (N := some 39) #[true, true, true, true, false, true, true, false, false, false, false, false, false] rfl rfl HT_ ?_
             refine PT (i := 4) (N := some 37) (tf 7 6) rfl rfl HT_ HW_ hHeld ?_
             refine PU (i := 7) (N := some 40) (tf 8 5) rfl rfl HT_ ?_
             refine PT (i := 8) (N := some 41) (tf 9 4) rfl rfl HT_ HW_ hHeld ?_
             refine PT (i := 9) (N := some 42) (tf 10 3) rfl rfl HT_ HW_ hHeld ?_
             refine one_ (i := 10) (N := some 43) (tf 11 2) rfl rfl (one_of HT_.out (by kernel_rfl)) (by decide) (fun K hK => ?_)
             refine goes_ Try.func46 (by kernel_rfl) rfl #[.agg #[.int .i64 ((rd_T50 l0_1 (ji22)).f0), .string ((rd_T50 l0_1 (ji22)).f1)], .agg #[.int .i64 ((rd_T50 l0_1 x28_2).f0), .string ((rd_T50 l0_1 x28_2).f1)]] (by rfl) rfl rfl (by (try simp only [List.map_toArray, List.map_cons, List.map_nil]); first | done | (simp only [hji22]; rfl) | rfl | (simp only [List.length_drop, List.length_take]; rfl)) ?_
             with_reducible refine (impl_compareEntries.calls k2 ((rd_T50 l0_1 (ji22)).f0) ((rd_T50 l0_1 (ji22)).f1) ((rd_T50 l0_1 x28_2).f0) ((rd_T50 l0_1 x28_2).f1) t206 _ A25.out).mono ?_
             rintro e w28 ⟨rfl, hb⟩
             refine ⟨_, rfl, ?_⟩
             have n0_ := Aside0.mk (blk_below (BD BK200) hb)
             have n1_ := Aside0.mk (blk_below (BD BK204) hb)
             have n2_ := Aside0.mk (below_step BG hb)
             clear BK200
             clear BK204
             clear HB
             have BK200 := n0_
             have BK204 := n1_
             have HB := n2_
             clear n0_ n1_ n2_
             (try clear hb)
             (try clear hb2)
             (try clear hk)
             (try clear hi)
             refine hK.out _ _ ⟨(blk_cell BK200.out 0).trans rfl, (blk_cell BK200.out 1).trans rfl, (blk_cell BK204.out 0).trans rfl, (blk_cell BK204.out 1).trans rfl, ((HB.out.cell (World.block_lt_of_cell? w _ hw205_0)).trans hw205_0), ((HB.out.cell (World.block_lt_of_cell? w _ hw205_1)).trans hw205_1)⟩ (fun hHeld => ?_)
             clear hK K
             refine NM (some 43) ?_
             refine PU (i := 11) (N := some 44) (tf 12 1) rfl rfl HT_ ?_
             refine PU (i := 12) (N := some 45) (tf 13 0) rfl rfl HT_ ?_
             refine done_ (done_of HT_.out (by kernel_rfl)) ?_
             try go_wp2
             go_meet
             case rel => exact ⟨_, (decide (t206 ≥ 0)), RS, H', ⟨by have := HJ1.out; have := HK2.out; first | omega | exact Nat.le_refl _⟩, ⟨by (with_reducible repeat (first | refine blk_drewN ?_ _ | refine blk_drew ?_ | refine blk_alloc ?_ _)); exact BK200.out⟩, ⟨by (with_reducible repeat (first | refine blk_drewN ?_ _ | refine blk_drew ?_ | refine blk_alloc ?_ _)); exact BK204.out⟩, ⟨by repeat (first | (with_reducible first | exact HB.out | apply below_alloc | apply pw_below_drewN | apply below_drew1 | refine below_set ?_ GE200.out | refine below_set ?_ GE204.out) | exact HB.out)⟩⟩
            ·rw [if_neg c24] at H
             exact absurd H (by simp)
           ·rw [if_neg c23] at H
            exact absurd H (by simp)
          ·rw [if_neg c21] at H
           have c21b0 : decide (0 < x28_2) = false := decide_eq_false c21
           clear c21
           (first | rw [c21b0] | (simp only [i64_w, i32_w]; rw [c21b0]) | skip)
           have H' := Aside0.mk H
           clear H
           try go_wp2
           have n0_ : Aside0 (((w18.setCell ⟨gb204, 0, none⟩ (.int .i64 ((rd_T50 l0_1 x28_2).f0))).setCell ⟨gb204, 1, none⟩ (.string ((rd_T50 l0_1 x28_2).f1))).heap[gb200]? = some (.cells #[.int .i64 a0_0, .slice (some ad203) l0_1.length c0_1] 29 (0, 0))) := ⟨by (with_reducible repeat (first | refine blk_drewN ?_ _ | refine blk_drew ?_ | refine blk_alloc ?_ _)); refine blk_far ?_ NB200_204.out _; (with_reducible repeat (first | refine blk_drewN ?_ _ | refine blk_drew ?_ | refine blk_alloc ?_ _)); refine blk_far ?_ NB200_204.out _; (with_reducible repeat (first | refine blk_drewN ?_ _ | refine blk_drew ?_ | refine blk_alloc ?_ _)); exact BK200.out⟩
           have n1_ : Aside0 (((w18.setCell ⟨gb204, 0, none⟩ (.int .i64 ((rd_T50 l0_1 x28_2).f0))).setCell ⟨gb204, 1, none⟩ (.string ((rd_T50 l0_1 x28_2).f1))).heap[gb204]? = some (.cells #[.int .i64 ((rd_T50 l0_1 x28_2).f0), .string ((rd_T50 l0_1 x28_2).f1)] 50 (0, 0))) := ⟨by (with_reducible repeat (first | refine blk_drewN ?_ _ | refine blk_drew ?_ | refine blk_alloc ?_ _)); refine blk_put (cs := #[.int .i64 ((rd_T50 l0_1 x28_2).f0), .string (⟨#[]⟩ : ByteArray)]) ?_ 1 _ rfl; (with_reducible repeat (first | refine blk_drewN ?_ _ | refine blk_drew ?_ | refine blk_alloc ?_ _)); refine blk_put (cs := #[.int .i64 0, .string (⟨#[]⟩ : ByteArray)]) ?_ 0 _ rfl; (with_reducible repeat (first | refine blk_drewN ?_ _ | refine blk_drew ?_ | refine blk_alloc ?_ _)); exact BK204.out⟩
           have n2_ : Aside0 (Below w.heap.size w ((w18.setCell ⟨gb204, 0, none⟩ (.int .i64 ((rd_T50 l0_1 x28_2).f0))).setCell ⟨gb204, 1, none⟩ (.string ((rd_T50 l0_1 x28_2).f1)))) := ⟨by repeat (first | (with_reducible first | exact HB.out | apply below_alloc | apply pw_below_drewN | apply below_drew1 | refine below_set ?_ GE200.out | refine below_set ?_ GE204.out) | exact HB.out)⟩
           (try clear BK200)
           (try clear BK204)
           (try clear HB)
           generalize ((w18.setCell ⟨gb204, 0, none⟩ (.int .i64 ((rd_T50 l0_1 x28_2).f0))).setCell ⟨gb204, 1, none⟩ (.string ((rd_T50 l0_1 x28_2).f1))) = w29 at n0_ n1_ n2_ ⊢
           have BK200 := n0_
           have BK204 := n1_
           have HB := n2_
           clear n0_ n1_ n2_
           have n0_ := Aside0.mk (blk_drew BK200.out)
           have n1_ := Aside0.mk (blk_drew BK204.out)
           have n2_ := Aside0.mk (below_drew1 HB.out)
           clear BK200
           clear BK204
           clear HB
           have BK200 := n0_
           have BK204 := n1_
           have HB := n2_
           clear n0_ n1_ n2_
           refine start_ (n := 13) (S := fun w' => True) (ds := []) #[false, false, false, false, false, false, false, false, false, false, false, false, false] (by kernel_rfl) rfl rfl trivial (fun hHeld => ?_); refine with_tabW impl_TableOk.tab6 impl_TableOk.bits6 (fun HT_ HW_ => ?_)
           generalize w29.drew = w30 at BK200 BK204 HB hHeld ⊢
           refine PU (i := 0) (N := some 33) (tf 1 12) rfl rfl HT_ ?_
           refine PU (i := 1) (N := some 34) (tf 2 11) rfl rfl HT_ ?_
           refine PU (i := 2) (N := some 35) (tf 3 10) rfl rfl HT_ ?_
           refine PN (i := 3) (N := some 36) (tf 4 9) rfl rfl HT_ ?_
           refine PN (i := 4) (N := some 37) (tf 5 8) rfl rfl HT_ ?_
           refine PN (i := 5) (N := some 38) (tf 6 7) rfl rfl HT_ ?_
           refine PN (i := 6) (N := some 39) (tf 7 6) rfl rfl HT_ ?_
           refine PN (i := 7) (N := some 40) (tf 8 5) rfl rfl HT_ ?_
           refine PN (i := 8) (N := some 41) (tf 9 4) rfl rfl HT_ ?_
           refine PN (i := 9) (N := some 42) (tf 10 3) rfl rfl HT_ ?_
           refine PN (i := 10) (N := some 43) (tf 11 2) rfl rfl HT_ ?_
           refine PN (i := 11) (N := some 44) (tf 12 1) rfl rfl HT_ ?_
           refine PU (i := 12) (N := some 45) (tf 13 0) rfl rfl HT_ ?_
           refine done_ (done_of HT_.out (by kernel_rfl)) ?_
           try go_wp2
           go_meet
           case rel => exact ⟨_, (false), RS, H', ⟨by have := HJ1.out; have := HK2.out; first | omega | exact Nat.le_refl _⟩, ⟨by (with_reducible repeat (first | refine blk_drewN ?_ _ | refine blk_drew ?_ | refine blk_alloc ?_ _)); exact BK200.out⟩, ⟨by (with_reducible repeat (first | refine blk_drewN ?_ _ | refine blk_drew ?_ | refine blk_alloc ?_ _)); exact BK204.out⟩, ⟨by repeat (first | (with_reducible first | exact HB.out | apply below_alloc | apply pw_below_drewN | apply below_drew1 | refine below_set ?_ GE200.out | refine below_set ?_ GE204.out) | exact HB.out)⟩⟩
         case rest =>
          clear HC17
          try clear c1
          try clear c2
          try clear p2
          try clear q2
          try clear hx2
          try clear c4
          try clear c5
          try clear c6
          try clear c6b0
          try clear c6b1
          try clear p6
          try clear c12
          try clear c14
          try clear c14b0
          try clear c15
          try clear c15b0
          try clear c16
          try clear c16b0
          try clear c19
          try clear p20
          try clear q20
          try clear hx20
          try clear c21
          try clear c21b0
          try clear c23
          try clear c23b0
          try clear c24
          try clear c24b0
          try clear hcz10_0
          try clear hcz10_1
          try clear hcz11_0
          try clear hcz11_1
          try clear hcz13_0
          try clear hcz13_1
          try clear hcz20_0
          try clear hcz20_1
          try clear hcz8_0
          try clear hcz8_1
          try clear hfz10_0
          try clear hfz10_1
          try clear hfz11_0
          try clear hfz11_1
          try clear hfz13_0
          try clear hfz13_1
          try clear hfz20_0
          try clear hfz20_1
          try clear hfz8_0
          try clear hfz8_1
          try clear hx203_0
          try clear hx203_1
          try clear hx205_0
          try clear hx205_1
          try clear p2
          try clear p203
          try clear p205
          try clear p6
          try clear q203
          try clear q205
          obtain ⟨kq, x45_16, rfl, HA, HJ16, BK200, BK204, HB⟩ := hcut
          cases kq with
          | zero => exact absurd HA.out (by simp [impl_TableOk.j2])
          | succ kj16 =>
           have H := HA.out
           clear HA
           simp only [impl_TableOk.j2] at H
           by_cases c31 : x45_16 = true
           ·subst c31
            replace H := IP H
            obtain rfl := Option.some.inj H
            go_wp2
            go_ret
            exact ⟨by first | rfl | (simp [errW_none, errW_some] <;> rfl) | (simp [*, errW_none, errW_some] <;> rfl), BG⟩
           ·replace c31 := Bool.eq_false_iff.mpr c31
            subst c31
            replace H := IN H
            by_cases c32 : ((rd_T50 l0_1 x28_2).f1).toList = ([] : List UInt8)
            ·rw [if_pos c32] at H
             have c32b0 : (((rd_T50 l0_1 x28_2).f1).toList == ([] : List UInt8)) = true := beq_iff_eq.mpr c32
             have c32b1 : (((rd_T50 l0_1 x28_2).f1).toList != ([] : List UInt8)) = false := bne_eq_false_iff_eq.mpr c32
             clear c32
             have H' := Aside0.mk H
             clear H
             try go_wp2
             have n0_ := Aside0.mk (blk_drew BK200.out)
             have n1_ := Aside0.mk (blk_drew BK204.out)
             have n2_ := Aside0.mk (below_drew1 HB.out)
             clear BK200
             clear BK204
             clear HB
             have BK200 := n0_
             have BK204 := n1_
             have HB := n2_
             clear n0_ n1_ n2_
             refine start_ (n := 17) (S := fun w' => w'.cell? ⟨gb204, 0, none⟩ = some (.int .i64 ((rd_T50 l0_1 x28_2).f0)) ∧ w'.cell? ⟨gb204, 1, none⟩ = some (.string ((rd_T50 l0_1 x28_2).f1))) (ds := []) #[false, false, false, false, false, false, false, false, false, false, false, false, false, false, false, false, false] (by kernel_rfl) rfl rfl ⟨(blk_cell BK204.out 0).trans rfl, (blk_cell BK204.out 1).trans rfl⟩ (fun hHeld => ?_); refine with_tabW impl_TableOk.tab8 impl_TableOk.bits8 (fun HT_ HW_ => ?_)
             generalize wc.drew = w33 at BK200 BK204 HB hHeld ⊢
             refine PU (i := 0) (N := some 46) (tf 1 16) rfl rfl HT_ ?_
             refine PT (i := 1) (N := some 47) (tf 2 15) rfl rfl HT_ HW_ hHeld ?_
             refine PU (i := 2) (N := some 48) (tf 3 14) rfl rfl HT_ ?_
             refine PU (i := 3) (N := some 49) (tf 4 13) rfl rfl HT_ ?_
             refine PN (i := 4) (N := some 50) (tf 5 12) rfl rfl HT_ ?_
             refine PN (i := 5) (N := some 51) (tf 6 11) rfl rfl HT_ ?_
             refine PN (i := 6) (N := some 52) (tf 7 10) rfl rfl HT_ ?_
             refine PN (i := 7) (N := some 53) (tf 8 9) rfl rfl HT_ ?_
             refine PN (i := 8) (N := some 54) (tf 9 8) rfl rfl HT_ ?_
             refine PN (i := 9) (N := some 55) (tf 10 7) rfl rfl HT_ ?_
             refine PN (i := 10) (N := some 56) (tf 11 6) rfl rfl HT_ ?_
             refine PN (i := 11) (N := some 57) (tf 12 5) rfl rfl HT_ ?_
             refine PN (i := 12) (N := some 58) (tf 13 4) rfl rfl HT_ ?_
             refine PN (i := 13) (N := some 59) (tf 14 3) rfl rfl HT_ ?_
             refine PN (i := 14) (N := some 60) (tf 15 2) rfl rfl HT_ ?_
             refine PN (i := 15) (N := some 61) (tf 16 1) rfl rfl HT_ ?_
             refine PU (i := 16) (N := some 62) (tf 17 0) rfl rfl HT_ ?_
             refine done_ (done_of HT_.out (by kernel_rfl)) ?_
             try go_wp2
             go_roundg kj16
             case measure => have := HJ1.out; have := HK2.out; have := HJ16.out; omega
             case rel => exact ⟨(wrap64 (x28_2 + 1)), RS, H', ⟨by have := HJ1.out; have := HK2.out; have := HJ16.out; omega⟩, ⟨by (with_reducible repeat (first | refine blk_drewN ?_ _ | refine blk_drew ?_ | refine blk_alloc ?_ _)); exact BK200.out⟩, ⟨by repeat (first | (with_reducible first | exact HB.out | apply below_alloc | apply pw_below_drewN | apply below_drew1 | refine below_set ?_ GE200.out | refine below_set ?_ GE204.out) | exact HB.out)⟩⟩
            ·rw [if_neg c32] at H
             have c32b0 : (((rd_T50 l0_1 x28_2).f1).toList == ([] : List UInt8)) = false := beq_eq_false_iff_ne.mpr c32
             have c32b1 : (((rd_T50 l0_1 x28_2).f1).toList != ([] : List UInt8)) = true := bne_iff_ne.mpr c32
             replace H := BS H
             obtain ⟨t207, A340, H⟩ := H
             have A34 := Aside0.mk A340
             clear A340
             by_cases c35 : t207 = true
             ·subst c35
              replace H := IP H
              replace H := BS H
              obtain ⟨⟨t208, t209⟩, A360, H⟩ := H
              have A36 := Aside0.mk A360
              clear A360
              by_cases c37 : (!(((rd_T50 l0_1 x28_2).f0) == t208) || (!(((rd_T50 l0_1 x28_2).f1).toList == t209.toList))) = true
              ·rw [if_pos c37] at H
               have c37b0 : (!(((rd_T50 l0_1 x28_2).f0) == t208) || (!(((rd_T50 l0_1 x28_2).f1).toList == t209.toList))) = true := c37
               clear c37
               obtain rfl := Option.some.inj H
               try go_wp2
               have n0_ := Aside0.mk (blk_drew BK200.out)
               have n1_ := Aside0.mk (blk_drew BK204.out)
               have n2_ := Aside0.mk (below_drew1 HB.out)
               clear BK200
               clear BK204
               clear HB
               have BK200 := n0_
               have BK204 := n1_
               have HB := n2_
               clear n0_ n1_ n2_
               refine start_ (n := 17) (S := fun w' => w'.cell? ⟨gb204, 0, none⟩ = some (.int .i64 ((rd_T50 l0_1 x28_2).f0)) ∧ w'.cell? ⟨gb204, 1, none⟩ = some (.string ((rd_T50 l0_1 x28_2).f1))) (ds := []) #[false, false, false, false, false, false, false, false, false, false, false, false, false, false, false, false, false] (by kernel_rfl) rfl rfl ⟨(blk_cell BK204.out 0).trans rfl, (blk_cell BK204.out 1).trans rfl⟩ (fun hHeld => ?_); refine with_tabW impl_TableOk.tab8 impl_TableOk.bits8 (fun HT_ HW_ => ?_)
               generalize wc.drew = w38 at BK200 BK204 HB hHeld ⊢
               refine PU (i := 0) (N := some 46) (tf 1 16) rfl rfl HT_ ?_
               refine PT (i := 1) (N := some 47) (tf 2 15) rfl rfl HT_ HW_ hHeld ?_
               refine PU (i := 2) (N := some 48) (tf 3 14) rfl rfl HT_ ?_
               refine PU (i := 3) (N := some 49) (tf 4 13) rfl rfl HT_ ?_
               refine PU (i := 4) (N := some 50) (tf 5 12) rfl rfl HT_ ?_
               refine PT (i := 5) (N := some 51) (tf 6 11) rfl rfl HT_ HW_ hHeld ?_
               refine PU (i := 6) (N := some 52) (tf 7 10) rfl rfl HT_ ?_
               refine one_ (i := 7) (N := some 53) (tf 8 9) rfl rfl (one_of HT_.out (by kernel_rfl)) (by decide) (fun K hK => ?_)
               refine goes_ Try.func47 (by kernel_rfl) rfl #[.agg #[.string ((rd_T50 l0_1 x28_2).f1), .string (⟨#[]⟩ : ByteArray), .int .i64 0]] (by rfl) rfl rfl AQ ?_
               with_reducible refine (impl_ItemOk.calls kj16 ((rd_T50 l0_1 x28_2).f1) (⟨#[]⟩ : ByteArray) 0 true _ A34.out).mono ?_
               rintro e w39 ⟨rfl, hb⟩
               refine ⟨_, rfl, ?_⟩
               have n0_ := Aside0.mk (blk_below (BD BK200) hb)
               have n1_ := Aside0.mk (blk_below (BD BK204) hb)
               have n2_ := Aside0.mk (below_step BG hb)
               clear BK200
               clear BK204
               clear HB
               have BK200 := n0_
               have BK204 := n1_
               have HB := n2_
               clear n0_ n1_ n2_
               (try clear hb)
               (try clear hb2)
               (try clear hk)
               (try clear hi)
               refine hK.out _ _ ⟨(blk_cell BK204.out 0).trans rfl, (blk_cell BK204.out 1).trans rfl⟩ (fun hHeld => ?_)
               clear hK K
               refine NM (some 53) ?_
               refine PU (i := 8) (N := some 54) (tf 9 8) rfl rfl HT_ ?_
               refine PU (i := 9) (N := some 55) (tf 10 7) rfl rfl HT_ ?_
               refine PU (i := 11) (N := some 57) #[true, true, true, true, true, true, true, true, true, true, false, true, false, false, false, false, false] rfl rfl HT_ ?_
               refine PT (i := 10) (N := some 56) (tf 12 5) rfl rfl HT_ HW_ hHeld ?_
               refine PT (i := 12) (N := some 58) (tf 13 4) rfl rfl HT_ HW_ hHeld ?_
               refine one_ (i := 13) (N := some 59) (tf 14 3) rfl rfl (one_of HT_.out (by kernel_rfl)) (by decide) (fun K hK => ?_)
               refine goes_ Try.func48 (by kernel_rfl) rfl #[.string ((rd_T50 l0_1 x28_2).f1)] (by rfl) rfl rfl AQ ?_
               with_reducible refine (impl_entryOf.calls kj16 ((rd_T50 l0_1 x28_2).f1) t208 t209 _ A36.out).mono ?_
               rintro e w40 ⟨rfl, hb⟩
               refine ⟨_, rfl, ?_⟩
               have n0_ := Aside0.mk (blk_below (BD BK200) hb)
               have n1_ := Aside0.mk (blk_below (BD BK204) hb)
               have n2_ := Aside0.mk (below_step BG hb)
               clear BK200
               clear BK204
               clear HB
               have BK200 := n0_
               have BK204 := n1_
               have HB := n2_
               clear n0_ n1_ n2_
               (try clear hb)
               (try clear hb2)
               (try clear hk)
               (try clear hi)
               refine hK.out _ _ ⟨(blk_cell BK204.out 0).trans rfl, (blk_cell BK204.out 1).trans rfl⟩ (fun hHeld => ?_)
               clear hK K
               refine NM (some 59) ?_
               refine PU (i := 14) (N := some 60) (tf 15 2) rfl rfl HT_ ?_
               refine PU (i := 15) (N := some 61) (tf 16 1) rfl rfl HT_ ?_
               refine PU (i := 16) (N := some 62) (tf 17 0) rfl rfl HT_ ?_
               refine done_ (done_of HT_.out (by kernel_rfl)) ?_
               try go_wp2
               go_ret
               exact ⟨by first | rfl | (simp [errW_none, errW_some] <;> rfl) | (simp [*, errW_none, errW_some] <;> rfl), BG⟩
              ·rw [if_neg c37] at H
               have c37b0 : (!(((rd_T50 l0_1 x28_2).f0) == t208) || (!(((rd_T50 l0_1 x28_2).f1).toList == t209.toList))) = false := by simpa using c37
               clear c37
               have H' := Aside0.mk H
               clear H
               try go_wp2
               have n0_ := Aside0.mk (blk_drew BK200.out)
               have n1_ := Aside0.mk (blk_drew BK204.out)
               have n2_ := Aside0.mk (below_drew1 HB.out)
               clear BK200
               clear BK204
               clear HB
               have BK200 := n0_
               have BK204 := n1_
               have HB := n2_
               clear n0_ n1_ n2_
               refine start_ (n := 17) (S := fun w' => w'.cell? ⟨gb204, 0, none⟩ = some (.int .i64 ((rd_T50 l0_1 x28_2).f0)) ∧ w'.cell? ⟨gb204, 1, none⟩ = some (.string ((rd_T50 l0_1 x28_2).f1))) (ds := []) #[false, false, false, false, false, false, false, false, false, false, false, false, false, false, false, false, false] (by kernel_rfl) rfl rfl ⟨(blk_cell BK204.out 0).trans rfl, (blk_cell BK204.out 1).trans rfl⟩ (fun hHeld => ?_); refine with_tabW impl_TableOk.tab8 impl_TableOk.bits8 (fun HT_ HW_ => ?_)
               generalize wc.drew = w41 at BK200 BK204 HB hHeld ⊢
               refine PU (i := 0) (N := some 46) (tf 1 16) rfl rfl HT_ ?_
               refine PT (i := 1) (N := some 47) (tf 2 15) rfl rfl HT_ HW_ hHeld ?_
               refine PU (i := 2) (N := some 48) (tf 3 14) rfl rfl HT_ ?_
               refine PU (i := 3) (N := some 49) (tf 4 13) rfl rfl HT_ ?_
               refine PU (i := 4) (N := some 50) (tf 5 12) rfl rfl HT_ ?_
               refine PT (i := 5) (N := some 51) (tf 6 11) rfl rfl HT_ HW_ hHeld ?_
               refine PU (i := 6) (N := some 52) (tf 7 10) rfl rfl HT_ ?_
               refine one_ (i := 7) (N := some 53) (tf 8 9) rfl rfl (one_of HT_.out (by kernel_rfl)) (by decide) (fun K hK => ?_)
               refine goes_ Try.func47 (by kernel_rfl) rfl #[.agg #[.string ((rd_T50 l0_1 x28_2).f1), .string (⟨#[]⟩ : ByteArray), .int .i64 0]] (by rfl) rfl rfl AQ ?_
               with_reducible refine (impl_ItemOk.calls kj16 ((rd_T50 l0_1 x28_2).f1) (⟨#[]⟩ : ByteArray) 0 true _ A34.out).mono ?_
               rintro e w42 ⟨rfl, hb⟩
               refine ⟨_, rfl, ?_⟩
               have n0_ := Aside0.mk (blk_below (BD BK200) hb)
               have n1_ := Aside0.mk (blk_below (BD BK204) hb)
               have n2_ := Aside0.mk (below_step BG hb)
               clear BK200
               clear BK204
               clear HB
               have BK200 := n0_
               have BK204 := n1_
               have HB := n2_
               clear n0_ n1_ n2_
               (try clear hb)
               (try clear hb2)
               (try clear hk)
               (try clear hi)
               refine hK.out _ _ ⟨(blk_cell BK204.out 0).trans rfl, (blk_cell BK204.out 1).trans rfl⟩ (fun hHeld => ?_)
               clear hK K
               refine NM (some 53) ?_
               refine PU (i := 8) (N := some 54) (tf 9 8) rfl rfl HT_ ?_
               refine PU (i := 9) (N := some 55) (tf 10 7) rfl rfl HT_ ?_
               refine PU (i := 11) (N := some 57) #[true, true, true, true, true, true, true, true, true, true, false, true, false, false, false, false, false] rfl rfl HT_ ?_
               refine PT (i := 10) (N := some 56) (tf 12 5) rfl rfl HT_ HW_ hHeld ?_
               refine PT (i := 12) (N := some 58) (tf 13 4) rfl rfl HT_ HW_ hHeld ?_
               refine one_ (i := 13) (N := some 59) (tf 14 3) rfl rfl (one_of HT_.out (by kernel_rfl)) (by decide) (fun K hK => ?_)
               refine goes_ Try.func48 (by kernel_rfl) rfl #[.string ((rd_T50 l0_1 x28_2).f1)] (by rfl) rfl rfl AQ ?_
               with_reducible refine (impl_entryOf.calls kj16 ((rd_T50 l0_1 x28_2).f1) t208 t209 _ A36.out).mono ?_
               rintro e w43 ⟨rfl, hb⟩
               refine ⟨_, rfl, ?_⟩
               have n0_ := Aside0.mk (blk_below (BD BK200) hb)
               have n1_ := Aside0.mk (blk_below (BD BK204) hb)
               have n2_ := Aside0.mk (below_step BG hb)
               clear BK200
               clear BK204
               clear HB
               have BK200 := n0_
               have BK204 := n1_
               have HB := n2_
               clear n0_ n1_ n2_
               (try clear hb)
               (try clear hb2)
               (try clear hk)
               (try clear hi)
               refine hK.out _ _ ⟨(blk_cell BK204.out 0).trans rfl, (blk_cell BK204.out 1).trans rfl⟩ (fun hHeld => ?_)
               clear hK K
               refine NM (some 59) ?_
               refine PU (i := 14) (N := some 60) (tf 15 2) rfl rfl HT_ ?_
               refine PU (i := 15) (N := some 61) (tf 16 1) rfl rfl HT_ ?_
               refine PU (i := 16) (N := some 62) (tf 17 0) rfl rfl HT_ ?_
               refine done_ (done_of HT_.out (by kernel_rfl)) ?_
               try go_wp2
               go_roundg kj16
               case measure => have := HJ1.out; have := HK2.out; have := HJ16.out; omega
               case rel => exact ⟨(wrap64 (x28_2 + 1)), RS, H', ⟨by have := HJ1.out; have := HK2.out; have := HJ16.out; omega⟩, ⟨by (with_reducible repeat (first | refine blk_drewN ?_ _ | refine blk_drew ?_ | refine blk_alloc ?_ _)); exact BK200.out⟩, ⟨by repeat (first | (with_reducible first | exact HB.out | apply below_alloc | apply pw_below_drewN | apply below_drew1 | refine below_set ?_ GE200.out | refine below_set ?_ GE204.out) | exact HB.out)⟩⟩
             ·replace c35 := Bool.eq_false_iff.mpr c35
              subst c35
              replace H := IN H
              obtain rfl := Option.some.inj H
              try go_wp2
              have n0_ := Aside0.mk (blk_drew BK200.out)
              have n1_ := Aside0.mk (blk_drew BK204.out)
              have n2_ := Aside0.mk (below_drew1 HB.out)
              clear BK200
              clear BK204
              clear HB
              have BK200 := n0_
              have BK204 := n1_
              have HB := n2_
              clear n0_ n1_ n2_
              refine start_ (n := 17) (S := fun w' => w'.cell? ⟨gb204, 0, none⟩ = some (.int .i64 ((rd_T50 l0_1 x28_2).f0)) ∧ w'.cell? ⟨gb204, 1, none⟩ = some (.string ((rd_T50 l0_1 x28_2).f1))) (ds := []) #[false, false, false, false, false, false, false, false, false, false, false, false, false, false, false, false, false] (by kernel_rfl) rfl rfl ⟨(blk_cell BK204.out 0).trans rfl, (blk_cell BK204.out 1).trans rfl⟩ (fun hHeld => ?_); refine with_tabW impl_TableOk.tab8 impl_TableOk.bits8 (fun HT_ HW_ => ?_)
              generalize wc.drew = w44 at BK200 BK204 HB hHeld ⊢
              refine PU (i := 0) (N := some 46) (tf 1 16) rfl rfl HT_ ?_
              refine PT (i := 1) (N := some 47) (tf 2 15) rfl rfl HT_ HW_ hHeld ?_
              refine PU (i := 2) (N := some 48) (tf 3 14) rfl rfl HT_ ?_
              refine PU (i := 3) (N := some 49) (tf 4 13) rfl rfl HT_ ?_
              refine PU (i := 4) (N := some 50) (tf 5 12) rfl rfl HT_ ?_
              refine PT (i := 5) (N := some 51) (tf 6 11) rfl rfl HT_ HW_ hHeld ?_
              refine PU (i := 6) (N := some 52) (tf 7 10) rfl rfl HT_ ?_
              refine one_ (i := 7) (N := some 53) (tf 8 9) rfl rfl (one_of HT_.out (by kernel_rfl)) (by decide) (fun K hK => ?_)
              refine goes_ Try.func47 (by kernel_rfl) rfl #[.agg #[.string ((rd_T50 l0_1 x28_2).f1), .string (⟨#[]⟩ : ByteArray), .int .i64 0]] (by rfl) rfl rfl AQ ?_
              with_reducible refine (impl_ItemOk.calls kj16 ((rd_T50 l0_1 x28_2).f1) (⟨#[]⟩ : ByteArray) 0 false _ A34.out).mono ?_
              rintro e w45 ⟨rfl, hb⟩
              refine ⟨_, rfl, ?_⟩
              have n0_ := Aside0.mk (blk_below (BD BK200) hb)
              have n1_ := Aside0.mk (blk_below (BD BK204) hb)
              have n2_ := Aside0.mk (below_step BG hb)
              clear BK200
              clear BK204
              clear HB
              have BK200 := n0_
              have BK204 := n1_
              have HB := n2_
              clear n0_ n1_ n2_
              (try clear hb)
              (try clear hb2)
              (try clear hk)
              (try clear hi)
              refine hK.out _ _ ⟨(blk_cell BK204.out 0).trans rfl, (blk_cell BK204.out 1).trans rfl⟩ (fun hHeld => ?_)
              clear hK K
              refine NM (some 53) ?_
              refine PU (i := 8) (N := some 54) (tf 9 8) rfl rfl HT_ ?_
              refine PU (i := 9) (N := some 55) (tf 10 7) rfl rfl HT_ ?_
              refine PN (i := 10) (N := some 56) (tf 11 6) rfl rfl HT_ ?_
              refine PN (i := 11) (N := some 57) (tf 12 5) rfl rfl HT_ ?_
              refine PN (i := 12) (N := some 58) (tf 13 4) rfl rfl HT_ ?_
              refine PN (i := 13) (N := some 59) (tf 14 3) rfl rfl HT_ ?_
              refine PN (i := 14) (N := some 60) (tf 15 2) rfl rfl HT_ ?_
              refine PU (i := 15) (N := some 61) (tf 16 1) rfl rfl HT_ ?_
              refine PU (i := 16) (N := some 62) (tf 17 0) rfl rfl HT_ ?_
              refine done_ (done_of HT_.out (by kernel_rfl)) ?_
              try go_wp2
              go_ret
              exact ⟨by first | rfl | (simp [errW_none, errW_some] <;> rfl) | (simp [*, errW_none, errW_some] <;> rfl), BG⟩
        ·rw [if_neg c16] at H
         exact absurd H (by simp)
       ·rw [if_neg c15] at H
        exact absurd H (by simp)
      ·rw [if_neg c14] at H
       have c14b0 : decide (x28_2 < (l0_1.length : Int)) = false := decide_eq_false c14
       clear c14
       have H' := Aside0.mk H
       clear H
       obtain ⟨hcz46_0, hcz46_1, hfz46_0, hfz46_1⟩ := bk2 BK200.out
       go_wp2
       go_loopg [5, 66] k2 (fun kq v5 v66 w' => ∃ (x5_3 : Int) (x66_3 : Int), v5 = .int .i64 x5_3 ∧ v66 = .int .i64 x66_3 ∧ Aside0 (impl_TableOk.l1 kq x5_3 a0_0 x66_3 a0_0 l0_1 = some r) ∧ Aside0 (kq ≤ k2) ∧ Aside0 (w'.heap[gb200]? = some (.cells #[.int .i64 a0_0, (.slice A0_1 l0_1.length c0_1)] 29 (0, 0))) ∧ Aside0 (Below w.heap.size w w'))
       case atStart => exact ⟨(0), (0), RS, RS, H', ⟨Nat.le_refl _⟩, ⟨by (with_reducible repeat (first | refine blk_drewN ?_ _ | refine blk_drew ?_ | refine blk_alloc ?_ _)); exact BK200.out⟩, ⟨by repeat (first | (with_reducible first | exact HB.out | apply below_alloc | apply pw_below_drewN | apply below_drew1 | refine below_set ?_ GE200.out) | exact HB.out)⟩⟩
       case round =>
        clear H'
        try clear c1
        try clear p2
        try clear c3
        try clear c4
        try clear p6
        try clear c14
        try clear c14b0
        try clear c15
        try clear c16
        try clear c32
        try clear c32b0
        try clear c32b1
        try clear c35
        try clear c37
        try clear c37b0
        try clear hcz46_0
        try clear hcz46_1
        try clear hfz46_0
        try clear hfz46_1
        obtain ⟨x5_3, x66_3, rfl, rfl, HA, HK3, BK200, HB⟩ := hrel
        cases gk with
        | zero => exact absurd HA.out (by simp [impl_TableOk.l1])
        | succ k3 =>
         have H := HA.out
         clear HA
         simp only [impl_TableOk.l1] at H
         by_cases c47 : x66_3 < a0_0
         ·rw [if_pos c47] at H
          have c47b0 : decide (x66_3 < a0_0) = true := decide_eq_true c47
          clear c47
          replace H := BS H
          obtain ⟨t212, A480, H⟩ := H
          have A48 := Aside0.mk A480
          clear A480
          by_cases c49 : t212 = true
          ·subst c49
           replace H := IP H
           replace H := BS H
           obtain ⟨t213, A500, H⟩ := H
           have A50 := Aside0.mk A500
           clear A500
           replace H := BS H
           obtain ⟨t214, A510, H⟩ := H
           have A51 := Aside0.mk A510
           clear A510
           by_cases c52 : t214 = true
           ·subst c52
            replace H := IP H
            have H' := Aside0.mk H
            clear H
            obtain ⟨hcz53_0, hcz53_1, hfz53_0, hfz53_1⟩ := bk2 BK200.out
            try go_wp2_with (first | ((with_reducible refine gate_callee (f := 49) rfl ?_); refine goesL_ (some 71) rfl rfl Try.func49 (by kernel_rfl) rfl #[.agg #[.int .i64 a0_0, .slice A0_1 l0_1.length c0_1], .int .i64 x66_3] rfl AQ ?_; (with_reducible refine (impl_Table_isOpen.calls k3 a0_0 _ _ l0_1 x66_3 true _ ?side1 ?side2 A48.out).mono ?_); (case side1 => exact SC HR0_1); (case side2 => exact HC0_1.out); rintro e w54 ⟨rfl, hb⟩; refine ⟨_, rfl, ?_⟩; have n0_ := Aside0.mk (blk_below (BD BK200) hb); have n1_ := Aside0.mk (below_step BG hb); clear BK200; clear HB; have BK200 := n0_; have HB := n1_; clear n0_ n1_; (try clear hb); (try clear hb2); (try clear hk); (try clear hi)))
            have n0_ := Aside0.mk (blk_drew BK200.out)
            have n1_ := Aside0.mk (below_drew1 HB.out)
            clear BK200
            clear HB
            have BK200 := n0_
            have HB := n1_
            clear n0_ n1_
            refine start_ (n := 5) (S := fun w' => w'.cell? ⟨gb200, 0, none⟩ = some (.int .i64 a0_0) ∧ w'.cell? ⟨gb200, 1, none⟩ = some (.slice A0_1 l0_1.length c0_1)) (ds := []) #[false, false, false, false, false] (by kernel_rfl) rfl rfl ⟨(blk_cell BK200.out 0).trans rfl, (blk_cell BK200.out 1).trans rfl⟩ (fun hHeld => ?_)
            generalize w54.drew = w55 at BK200 HB hHeld ⊢
            refine PV (i := 1) (N := some 75) #[false, true, false, false, false] rfl rfl ?_
            refine PK (i := 0) (N := some 74) (tf 2 3) rfl rfl hHeld ?_
            refine one_ (i := 2) (N := some 76) (tf 3 2) rfl rfl (by kernel_rfl) (by decide) (fun K hK => ?_)
            refine goes_ Try.func50 (by kernel_rfl) rfl #[.int .i64 x66_3] (by rfl) rfl rfl AQ ?_
            with_reducible refine (impl_Parent.calls k3 x66_3 t213 _ A50.out).mono ?_
            rintro e w' ⟨rfl, ⟨nd, rfl⟩⟩
            refine ⟨_, rfl, ?_⟩
            refine hK.out _ _ ⟨(blk_cell BK200.out 0).trans rfl, (blk_cell BK200.out 1).trans rfl⟩ (fun hHeld => ?_)
            clear hK K
            refine NM (some 76) ?_
            refine one_ (i := 3) (N := some 77) (tf 4 1) rfl rfl (by kernel_rfl) (by decide) (fun K hK => ?_)
            refine goes_ Try.func49 (by kernel_rfl) rfl #[.agg #[.int .i64 a0_0, .slice A0_1 l0_1.length c0_1], .int .i64 t213] (by rfl) rfl rfl AQ ?_
            with_reducible refine (impl_Table_isOpen.calls k3 a0_0 _ _ l0_1 t213 true _ ?side1 ?side2 A51.out).mono ?_
            (case side1 => repeat (first | exact (Kd.C_below HR0_1.out BG) | (with_reducible refine Kd.C_alloc ?_ _) | (with_reducible refine Kd.C_drewN ?_ _) | (with_reducible refine Kd.C_drew ?_)))
            (case side2 => exact HC0_1.out)
            rintro e w56 ⟨rfl, hb⟩
            refine ⟨_, rfl, ?_⟩
            have n0_ := Aside0.mk (blk_below (BD BK200) hb)
            have n1_ := Aside0.mk (below_step BG hb)
            clear BK200
            clear HB
            have BK200 := n0_
            have HB := n1_
            clear n0_ n1_
            (try clear hb)
            (try clear hb2)
            (try clear hk)
            (try clear hi)
            refine hK.out _ _ ⟨(blk_cell BK200.out 0).trans rfl, (blk_cell BK200.out 1).trans rfl⟩ (fun hHeld => ?_)
            clear hK K
            refine NM (some 77) ?_
            refine PV (i := 4) (N := some 78) (tf 5 0) rfl rfl ?_
            refine done_ (by kernel_rfl) ?_
            try go_wp2
            go_roundg k3
            case measure => have := HJ1.out; have := HK2.out; have := HK3.out; omega
            case rel => exact ⟨(wrap64 (x5_3 + 1)), (wrap64 (x66_3 + 1)), RS, RS, H', ⟨by have := HJ1.out; have := HK2.out; have := HK3.out; omega⟩, ⟨by (with_reducible repeat (first | refine blk_drewN ?_ _ | refine blk_drew ?_ | refine blk_alloc ?_ _)); exact BK200.out⟩, ⟨by repeat (first | (with_reducible first | exact HB.out | apply below_alloc | apply pw_below_drewN | apply below_drew1 | refine below_set ?_ GE200.out) | exact HB.out)⟩⟩
           ·replace c52 := Bool.eq_false_iff.mpr c52
            subst c52
            replace H := IN H
            obtain rfl := Option.some.inj H
            obtain ⟨hcz57_0, hcz57_1, hfz57_0, hfz57_1⟩ := bk2 BK200.out
            try go_wp2_with (first | ((with_reducible refine gate_callee (f := 49) rfl ?_); refine goesL_ (some 71) rfl rfl Try.func49 (by kernel_rfl) rfl #[.agg #[.int .i64 a0_0, .slice A0_1 l0_1.length c0_1], .int .i64 x66_3] rfl AQ ?_; (with_reducible refine (impl_Table_isOpen.calls k3 a0_0 _ _ l0_1 x66_3 true _ ?side1 ?side2 A48.out).mono ?_); (case side1 => exact SC HR0_1); (case side2 => exact HC0_1.out); rintro e w58 ⟨rfl, hb⟩; refine ⟨_, rfl, ?_⟩; have n0_ := Aside0.mk (blk_below (BD BK200) hb); have n1_ := Aside0.mk (below_step BG hb); clear BK200; clear HB; have BK200 := n0_; have HB := n1_; clear n0_ n1_; (try clear hb); (try clear hb2); (try clear hk); (try clear hi)))
            have n0_ := Aside0.mk (blk_drew BK200.out)
            have n1_ := Aside0.mk (below_drew1 HB.out)
            clear BK200
            clear HB
            have BK200 := n0_
            have HB := n1_
            clear n0_ n1_
            refine start_ (n := 5) (S := fun w' => w'.cell? ⟨gb200, 0, none⟩ = some (.int .i64 a0_0) ∧ w'.cell? ⟨gb200, 1, none⟩ = some (.slice A0_1 l0_1.length c0_1)) (ds := []) #[false, false, false, false, false] (by kernel_rfl) rfl rfl ⟨(blk_cell BK200.out 0).trans rfl, (blk_cell BK200.out 1).trans rfl⟩ (fun hHeld => ?_)
            generalize w58.drew = w59 at BK200 HB hHeld ⊢
            refine PV (i := 1) (N := some 75) #[false, true, false, false, false] rfl rfl ?_
            refine PK (i := 0) (N := some 74) (tf 2 3) rfl rfl hHeld ?_
            refine one_ (i := 2) (N := some 76) (tf 3 2) rfl rfl (by kernel_rfl) (by decide) (fun K hK => ?_)
            refine goes_ Try.func50 (by kernel_rfl) rfl #[.int .i64 x66_3] (by rfl) rfl rfl AQ ?_
            with_reducible refine (impl_Parent.calls k3 x66_3 t213 _ A50.out).mono ?_
            rintro e w' ⟨rfl, ⟨nd, rfl⟩⟩
            refine ⟨_, rfl, ?_⟩
            refine hK.out _ _ ⟨(blk_cell BK200.out 0).trans rfl, (blk_cell BK200.out 1).trans rfl⟩ (fun hHeld => ?_)
            clear hK K
            refine NM (some 76) ?_
            refine one_ (i := 3) (N := some 77) (tf 4 1) rfl rfl (by kernel_rfl) (by decide) (fun K hK => ?_)
            refine goes_ Try.func49 (by kernel_rfl) rfl #[.agg #[.int .i64 a0_0, .slice A0_1 l0_1.length c0_1], .int .i64 t213] (by rfl) rfl rfl AQ ?_
            with_reducible refine (impl_Table_isOpen.calls k3 a0_0 _ _ l0_1 t213 false _ ?side1 ?side2 A51.out).mono ?_
            (case side1 => repeat (first | exact (Kd.C_below HR0_1.out BG) | (with_reducible refine Kd.C_alloc ?_ _) | (with_reducible refine Kd.C_drewN ?_ _) | (with_reducible refine Kd.C_drew ?_)))
            (case side2 => exact HC0_1.out)
            rintro e w60 ⟨rfl, hb⟩
            refine ⟨_, rfl, ?_⟩
            have n0_ := Aside0.mk (blk_below (BD BK200) hb)
            have n1_ := Aside0.mk (below_step BG hb)
            clear BK200
            clear HB
            have BK200 := n0_
            have HB := n1_
            clear n0_ n1_
            (try clear hb)
            (try clear hb2)
            (try clear hk)
            (try clear hi)
            refine hK.out _ _ ⟨(blk_cell BK200.out 0).trans rfl, (blk_cell BK200.out 1).trans rfl⟩ (fun hHeld => ?_)
            clear hK K
            refine NM (some 77) ?_
            refine PV (i := 4) (N := some 78) (tf 5 0) rfl rfl ?_
            refine done_ (by kernel_rfl) ?_
            try go_wp2
            go_ret
            exact ⟨by first | rfl | (simp [errW_none, errW_some] <;> rfl) | (simp [*, errW_none, errW_some] <;> rfl), BG⟩
          ·replace c49 := Bool.eq_false_iff.mpr c49
           subst c49
           replace H := IN H
           have H' := Aside0.mk H
           clear H
           obtain ⟨hcz61_0, hcz61_1, hfz61_0, hfz61_1⟩ := bk2 BK200.out
           go_wp2_with (first | ((with_reducible refine gate_callee (f := 49) rfl ?_); refine goesL_ (some 71) rfl rfl Try.func49 (by kernel_rfl) rfl #[.agg #[.int .i64 a0_0, .slice A0_1 l0_1.length c0_1], .int .i64 x66_3] rfl AQ ?_; (with_reducible refine (impl_Table_isOpen.calls k3 a0_0 _ _ l0_1 x66_3 false _ ?side1 ?side2 A48.out).mono ?_); (case side1 => exact SC HR0_1); (case side2 => exact HC0_1.out); rintro e w62 ⟨rfl, hb⟩; refine ⟨_, rfl, ?_⟩; have n0_ := Aside0.mk (blk_below (BD BK200) hb); have n1_ := Aside0.mk (below_step BG hb); clear BK200; clear HB; have BK200 := n0_; have HB := n1_; clear n0_ n1_; (try clear hb); (try clear hb2); (try clear hk); (try clear hi)))
           go_roundg k3
           case measure => have := HJ1.out; have := HK2.out; have := HK3.out; omega
           case rel => exact ⟨(x5_3), (wrap64 (x66_3 + 1)), RS, RS, H', ⟨by have := HJ1.out; have := HK2.out; have := HK3.out; omega⟩, ⟨by (with_reducible repeat (first | refine blk_drewN ?_ _ | refine blk_drew ?_ | refine blk_alloc ?_ _)); exact BK200.out⟩, ⟨by repeat (first | (with_reducible first | exact HB.out | apply below_alloc | apply pw_below_drewN | apply below_drew1 | refine below_set ?_ GE200.out) | exact HB.out)⟩⟩
         ·rw [if_neg c47] at H
          have c47b0 : decide (x66_3 < a0_0) = false := decide_eq_false c47
          clear c47
          replace H := BS H
          obtain ⟨t210, A630, H⟩ := H
          have A63 := Aside0.mk A630
          clear A630
          by_cases c64 : t210 = true
          ·subst c64
           replace H := IP H
           replace H := BS H
           obtain ⟨t211, A650, H⟩ := H
           have A65 := Aside0.mk A650
           clear A650
           obtain rfl := Option.some.inj H
           try go_wp2
           have n0_ := Aside0.mk (blk_drew BK200.out)
           have n1_ := Aside0.mk (below_drew1 HB.out)
           clear BK200
           clear HB
           have BK200 := n0_
           have HB := n1_
           clear n0_ n1_
           refine start_ (n := 13) (S := fun w' => w'.cell? ⟨gb200, 0, none⟩ = some (.int .i64 a0_0) ∧ w'.cell? ⟨gb200, 1, none⟩ = some (.slice A0_1 l0_1.length c0_1)) (ds := []) #[false, false, false, false, false, false, false, false, false, false, false, false, false] (by kernel_rfl) rfl rfl ⟨(blk_cell BK200.out 0).trans rfl, (blk_cell BK200.out 1).trans rfl⟩ (fun hHeld => ?_); refine with_tabW impl_TableOk.tab20 impl_TableOk.bits20 (fun HT_ HW_ => ?_)
           generalize wr.drew = w66 at BK200 HB hHeld ⊢
           refine PT (i := 0) (N := some 80) (tf 1 12) rfl rfl HT_ HW_ hHeld ?_
           refine one_ (i := 1) (N := some 81) (tf 2 11) rfl rfl (one_of HT_.out (by kernel_rfl)) (by decide) (fun K hK => ?_)
           refine goes_ Try.func49 (by kernel_rfl) rfl #[.agg #[.int .i64 a0_0, .slice A0_1 l0_1.length c0_1], .int .i64 0] (by rfl) rfl rfl AQ ?_
           with_reducible refine (impl_Table_isOpen.calls k3 a0_0 _ _ l0_1 0 true _ ?side1 ?side2 A63.out).mono ?_
           (case side1 => exact SC HR0_1)
           (case side2 => exact HC0_1.out)
           rintro e w67 ⟨rfl, hb⟩
           refine ⟨_, rfl, ?_⟩
           have n0_ := Aside0.mk (blk_below (BD BK200) hb)
           have n1_ := Aside0.mk (below_step BG hb)
           clear BK200
           clear HB
           have BK200 := n0_
           have HB := n1_
           clear n0_ n1_
           (try clear hb)
           (try clear hb2)
           (try clear hk)
           (try clear hi)
           refine hK.out _ _ ⟨(blk_cell BK200.out 0).trans rfl, (blk_cell BK200.out 1).trans rfl⟩ (fun hHeld => ?_)
           clear hK K
           refine NM (some 81) ?_
           refine PU (i := 2) (N := some 82) (tf 3 10) rfl rfl HT_ ?_
           refine PU (i := 3) (N := some 83) (tf 4 9) rfl rfl HT_ ?_
           refine PU (i := 4) (N := some 84) (tf 5 8) rfl rfl HT_ ?_
           refine PT (i := 5) (N := some 85) (tf 6 7) rfl rfl HT_ HW_ hHeld ?_
           refine PU (i := 6) (N := some 86) (tf 7 6) rfl rfl HT_ ?_
           refine PT (i := 7) (N := some 87) (tf 8 5) rfl rfl HT_ HW_ hHeld ?_
           refine one_ (i := 8) (N := some 88) (tf 9 4) rfl rfl (one_of HT_.out (by kernel_rfl)) (by decide) (fun K hK => ?_)
           refine goes_ Try.func45 (by kernel_rfl) rfl #[.agg #[.int .i64 a0_0, .slice A0_1 l0_1.length c0_1]] (by rfl) rfl rfl AQ ?_
           with_reducible refine (impl_Table_keysIn.calls k3 a0_0 _ _ l0_1 t211 _ ?side1 ?side2 A65.out).mono ?_
           (case side1 => exact SC HR0_1)
           (case side2 => exact HC0_1.out)
           rintro e w68 ⟨rfl, hb⟩
           refine ⟨_, rfl, ?_⟩
           have n0_ := Aside0.mk (blk_below (BD BK200) hb)
           have n1_ := Aside0.mk (below_step BG hb)
           clear BK200
           clear HB
           have BK200 := n0_
           have HB := n1_
           clear n0_ n1_
           (try clear hb)
           (try clear hb2)
           (try clear hk)
           (try clear hi)
           refine hK.out _ _ ⟨(blk_cell BK200.out 0).trans rfl, (blk_cell BK200.out 1).trans rfl⟩ (fun hHeld => ?_)
           clear hK K
           refine NM (some 88) ?_
           refine PU (i := 9) (N := some 89) (tf 10 3) rfl rfl HT_ ?_
           refine PU (i := 10) (N := some 90) (tf 11 2) rfl rfl HT_ ?_
           refine PU (i := 11) (N := some 91) (tf 12 1) rfl rfl HT_ ?_
           refine PU (i := 12) (N := some 2) (tf 13 0) rfl rfl HT_ ?_
           refine done_ (done_of HT_.out (by kernel_rfl)) ?_
           try go_wp2
           go_ret
           exact ⟨by first | rfl | (simp [errW_none, errW_some] <;> rfl) | (simp [*, errW_none, errW_some] <;> rfl), BG⟩
          ·replace c64 := Bool.eq_false_iff.mpr c64
           subst c64
           replace H := IN H
           obtain rfl := Option.some.inj H
           try go_wp2
           have n0_ := Aside0.mk (blk_drew BK200.out)
           have n1_ := Aside0.mk (below_drew1 HB.out)
           clear BK200
           clear HB
           have BK200 := n0_
           have HB := n1_
           clear n0_ n1_
           refine start_ (n := 13) (S := fun w' => w'.cell? ⟨gb200, 0, none⟩ = some (.int .i64 a0_0) ∧ w'.cell? ⟨gb200, 1, none⟩ = some (.slice A0_1 l0_1.length c0_1)) (ds := []) #[false, false, false, false, false, false, false, false, false, false, false, false, false] (by kernel_rfl) rfl rfl ⟨(blk_cell BK200.out 0).trans rfl, (blk_cell BK200.out 1).trans rfl⟩ (fun hHeld => ?_); refine with_tabW impl_TableOk.tab20 impl_TableOk.bits20 (fun HT_ HW_ => ?_)
           generalize wr.drew = w69 at BK200 HB hHeld ⊢
           refine PT (i := 0) (N := some 80) (tf 1 12) rfl rfl HT_ HW_ hHeld ?_
           refine one_ (i := 1) (N := some 81) (tf 2 11) rfl rfl (one_of HT_.out (by kernel_rfl)) (by decide) (fun K hK => ?_)
           refine goes_ Try.func49 (by kernel_rfl) rfl #[.agg #[.int .i64 a0_0, .slice A0_1 l0_1.length c0_1], .int .i64 0] (by rfl) rfl rfl AQ ?_
           with_reducible refine (impl_Table_isOpen.calls k3 a0_0 _ _ l0_1 0 false _ ?side1 ?side2 A63.out).mono ?_
           (case side1 => exact SC HR0_1)
           (case side2 => exact HC0_1.out)
           rintro e w70 ⟨rfl, hb⟩
           refine ⟨_, rfl, ?_⟩
           have n0_ := Aside0.mk (blk_below (BD BK200) hb)
           have n1_ := Aside0.mk (below_step BG hb)
           clear BK200
           clear HB
           have BK200 := n0_
           have HB := n1_
           clear n0_ n1_
           (try clear hb)
           (try clear hb2)
           (try clear hk)
           (try clear hi)
           refine hK.out _ _ ⟨(blk_cell BK200.out 0).trans rfl, (blk_cell BK200.out 1).trans rfl⟩ (fun hHeld => ?_)
           clear hK K
           refine NM (some 81) ?_
           refine PU (i := 2) (N := some 82) (tf 3 10) rfl rfl HT_ ?_
           refine PN (i := 3) (N := some 83) (tf 4 9) rfl rfl HT_ ?_
           refine PN (i := 4) (N := some 84) (tf 5 8) rfl rfl HT_ ?_
           refine PN (i := 5) (N := some 85) (tf 6 7) rfl rfl HT_ ?_
           refine PN (i := 6) (N := some 86) (tf 7 6) rfl rfl HT_ ?_
           refine PN (i := 7) (N := some 87) (tf 8 5) rfl rfl HT_ ?_
           refine PN (i := 8) (N := some 88) (tf 9 4) rfl rfl HT_ ?_
           refine PN (i := 9) (N := some 89) (tf 10 3) rfl rfl HT_ ?_
           refine PN (i := 10) (N := some 90) (tf 11 2) rfl rfl HT_ ?_
           refine PU (i := 11) (N := some 91) (tf 12 1) rfl rfl HT_ ?_
           refine PU (i := 12) (N := some 2) (tf 13 0) rfl rfl HT_ ?_
           refine done_ (done_of HT_.out (by kernel_rfl)) ?_
           try go_wp2
           go_ret
           exact ⟨by first | rfl | (simp [errW_none, errW_some] <;> rfl) | (simp [*, errW_none, errW_some] <;> rfl), BG⟩
def slices_Index_impl_Entry_impl_Entry.l0 : Nat → List (S50) → Int → Int → Int → ByteArray → Option (Int)
 | 0, _, _, _, _, _ => none
 | k + 1, x0, x7, x8, x247000, x247001 => if x8 < x7 then (if 0 ≤ x8 then (if x8 < (x0.length : Int) then (if (x247000 == ((rd_T50 x0 x8).f0) && (x247001.toList == (((rd_T50 x0 x8).f1).toList))) = true then (some x8) else (slices_Index_impl_Entry_impl_Entry.l0 k x0 x7 (wrap64 (x8 + 1)) x247000 x247001)) else (none)) else (none)) else (some (-1))
def slices_Index_impl_Entry_impl_Entry.f (k : Nat) (l0 : List (S50)) (a1_0 : Int) (a1_1 : ByteArray) : Option (Int) := slices_Index_impl_Entry_impl_Entry.l0 k l0 (l0.length : Int) 0 a1_0 a1_1
theorem slices_Index_impl_Entry_impl_Entry.mono_l : ∀ k, (∀ y0 y1 y2 y3 y4, LeO (slices_Index_impl_Entry_impl_Entry.l0 k y0 y1 y2 y3 y4) (slices_Index_impl_Entry_impl_Entry.l0 (k + 1) y0 y1 y2 y3 y4))
 | 0 => fun _ _ _ _ _ r h => by simp [slices_Index_impl_Entry_impl_Entry.l0] at h
 | k + 1 => by
  have ih0 := slices_Index_impl_Entry_impl_Entry.mono_l k
  ·intro y0 y1 y2 y3 y4
   unfold slices_Index_impl_Entry_impl_Entry.l0
   repeat' first | (with_reducible first | exact ih0 _ _ _ _ _ | exact LeO.refl _ | exact LeO.none _ | refine LeO.ite ?_ ?_ | refine LeO.bind ?_ (fun _ => ?_)) | exact ih0 _ _ _ _ _ | exact LeO.none _ | refine LeO.ite ?_ ?_ | refine LeO.bind ?_ (fun _ => ?_)
theorem slices_Index_impl_Entry_impl_Entry.mono : ∀ a0 a1 a2 k, LeO (slices_Index_impl_Entry_impl_Entry.f k a0 a1 a2) (slices_Index_impl_Entry_impl_Entry.f (k + 1) a0 a1 a2) := by
 intro a0 a1 a2 k
 have ih0 := slices_Index_impl_Entry_impl_Entry.mono_l k
 unfold slices_Index_impl_Entry_impl_Entry.f
 repeat' first | (with_reducible first | exact ih0 _ _ _ _ _ | exact LeO.refl _ | exact LeO.none _ | refine LeO.ite ?_ ?_ | refine LeO.bind ?_ (fun _ => ?_)) | exact ih0 _ _ _ _ _ | exact LeO.none _ | refine LeO.ite ?_ ?_ | refine LeO.bind ?_ (fun _ => ?_)
set_option maxHeartbeats 8000000 in
set_option maxRecDepth 100000 in
theorem slices_Index_impl_Entry_impl_Entry.calls (k : Nat) (A0 : Option Addr) (c0 : Nat) (l0 : List (S50)) (a1_0 : Int) (a1_1 : ByteArray) (r : Int) (w : World) (hr0 : Kd.C k50 w A0 l0.length l0) (hc0 : l0.length ≤ c0) (h : slices_Index_impl_Entry_impl_Entry.f k l0 a1_0 a1_1 = some r) :
  Calls Try.prog 81 #[.slice A0 l0.length c0, .agg #[.int .i64 a1_0, .string a1_1]] w fun e w' => e = .returned (.int .i64 r) ∧ Below w.heap.size w w' := by
 have hu50 := Try.underlying50
 have HR0 := Aside0.mk hr0
 have HC0 := Aside0.mk hc0
 clear hr0 hc0
 have HB := Aside0.mk (Below.refl w.heap.size w)
 have H : (slices_Index_impl_Entry_impl_Entry.l0 k l0 (l0.length : Int) 0 a1_0 a1_1) = some r := h
 clear h
 have H' := Aside0.mk H
 clear H
 go_enter Try.func81, Try.ntmps81
 go_wp2_with (first | ((with_reducible refine gate_dst (N := 3) rfl ?_); refine box_event ?hg (N := 3) ?hd (cs := #[.int .i64 a1_0, .string a1_1]) (t := 50) ?hr ?_; (case hd => rfl); (case hg => rfl); (case hr => first | (go_simp; done) | (go_simp; rfl)); intro gb246 hg w3 hbox hb; have n0_ := Aside0.mk (below_step BL hb); have n1_ := Aside0.mk (hbox); have n2_ := Aside0.mk ((by rw [hg]; exact (below_size BL) : w.heap.size ≤ gb246)); have n3_ := Aside0.mk ((by rw [hg]; exact (below_size BL) : w.heap.size ≤ gb246)); clear HB; have HB := n0_; have BK246 := n1_; have GW246 := n2_; have GE246 := n3_; clear n0_ n1_ n2_ n3_; clear hb hbox hg))
 repeat (go_quiet (first | ((with_reducible refine gate_dst (N := 3) rfl ?_); refine box_event ?hg (N := 3) ?hd (cs := #[.int .i64 a1_0, .string a1_1]) (t := 50) ?hr ?_; (case hd => rfl); (case hg => rfl); (case hr => first | (go_simp; done) | (go_simp; rfl)); intro gb246 hg w3 hbox hb; have n0_ := Aside0.mk (below_step BL hb); have n1_ := Aside0.mk (hbox); have n2_ := Aside0.mk ((by rw [hg]; exact (below_size BL) : w.heap.size ≤ gb246)); have n3_ := Aside0.mk ((by rw [hg]; exact (below_size BL) : w.heap.size ≤ gb246)); clear HB; have HB := n0_; have BK246 := n1_; have GW246 := n2_; have GE246 := n3_; clear n0_ n1_ n2_ n3_; clear hb hbox hg)); try go_wp2_with (first | ((with_reducible refine gate_dst (N := 3) rfl ?_); refine box_event ?hg (N := 3) ?hd (cs := #[.int .i64 a1_0, .string a1_1]) (t := 50) ?hr ?_; (case hd => rfl); (case hg => rfl); (case hr => first | (go_simp; done) | (go_simp; rfl)); intro gb246 hg w3 hbox hb; have n0_ := Aside0.mk (below_step BL hb); have n1_ := Aside0.mk (hbox); have n2_ := Aside0.mk ((by rw [hg]; exact (below_size BL) : w.heap.size ≤ gb246)); have n3_ := Aside0.mk ((by rw [hg]; exact (below_size BL) : w.heap.size ≤ gb246)); clear HB; have HB := n0_; have BK246 := n1_; have GW246 := n2_; have GE246 := n3_; clear n0_ n1_ n2_ n3_; clear hb hbox hg)))
 go_loopg [8] k (fun kq v8 w' => ∃ (x8_1 : Int), v8 = .int .i64 x8_1 ∧ Aside0 (slices_Index_impl_Entry_impl_Entry.l0 kq l0 (l0.length : Int) x8_1 a1_0 a1_1 = some r) ∧ Aside0 (kq ≤ k) ∧ Aside0 (w'.heap[gb246]? = some (.cells #[.int .i64 a1_0, .string a1_1] 50 (0, 0))) ∧ Aside0 (Below w.heap.size w w'))
 case atStart => exact ⟨(0), RS, H', ⟨Nat.le_refl _⟩, ⟨by (with_reducible repeat (first | refine blk_drewN ?_ _ | refine blk_drew ?_ | refine blk_alloc ?_ _)); exact BK246.out⟩, ⟨by repeat (first | (with_reducible first | exact HB.out | apply below_alloc | apply pw_below_drewN | apply below_drew1 | refine below_set ?_ GE246.out) | exact HB.out)⟩⟩
 case round =>
  clear H'
  try clear p2
  obtain ⟨x8_1, rfl, HA, HK1, BK246, HB⟩ := hrel
  cases gk with
  | zero => exact absurd HA.out (by simp [slices_Index_impl_Entry_impl_Entry.l0])
  | succ k1 =>
   have H := HA.out
   clear HA
   simp only [slices_Index_impl_Entry_impl_Entry.l0] at H
   by_cases c4 : x8_1 < (l0.length : Int)
   ·rw [if_pos c4] at H
    have c4b0 : decide (x8_1 < (l0.length : Int)) = true := decide_eq_true c4
    clear c4
    by_cases c5 : 0 ≤ x8_1
    ·rw [if_pos c5] at H
     have c5b0 : decide (0 ≤ x8_1) = true := decide_eq_true c5
     clear c5
     by_cases c6 : x8_1 < (l0.length : Int)
     ·rw [if_pos c6] at H
      have c6b0 : decide (x8_1 < (l0.length : Int)) = true := decide_eq_true c6
      clear c6
      by_cases c7 : (a1_0 == ((rd_T50 l0 x8_1).f0) && (a1_1.toList == (((rd_T50 l0 x8_1).f1).toList))) = true
      ·rw [if_pos c7] at H
       have c7b0 : (a1_0 == ((rd_T50 l0 x8_1).f0) && (a1_1.toList == (((rd_T50 l0 x8_1).f1).toList))) = true := c7
       (try (have c7b1 : decide (a1_0 = ((rd_T50 l0 x8_1).f0) && (a1_1.toList == (((rd_T50 l0 x8_1).f1).toList))) = true := by simpa using c7))
       (try (have c7b2 : (a1_0 == ((rd_T50 l0 x8_1).f0) && (a1_1.toList == (((rd_T50 l0 x8_1).f1).toList))) = true := by simpa using c7))
       clear c7
       obtain rfl := Option.some.inj H
       obtain ⟨hcz8_0, hcz8_1, hfz8_0, hfz8_1⟩ := bk2 BK246.out
       have p247 : 0 ≤ (x8_1 : Int) := of_decide_eq_true AS
       have q247 : x8_1 < (l0.length : Int) := of_decide_eq_true AS
       obtain ⟨ad247, e247, hx247_0, hx247_1⟩ := at_T50 HR0.out x8_1 p247 q247
       cases e247
       replace hx247_0 := (HB.out.cell (World.block_lt_of_cell? w _ hx247_0)).trans hx247_0
       replace hx247_1 := (HB.out.cell (World.block_lt_of_cell? w _ hx247_1)).trans hx247_1
       replace p247 := eq_true p247
       replace q247 := eq_true q247
       go_wp2
       repeat (go_quiet (fail); try go_wp2)
       go_ret
       exact ⟨by first | rfl | (simp [errW_none, errW_some] <;> rfl) | (simp [*, errW_none, errW_some] <;> rfl), BG⟩
      ·rw [if_neg c7] at H
       have c7b0 : (a1_0 == ((rd_T50 l0 x8_1).f0) && (a1_1.toList == (((rd_T50 l0 x8_1).f1).toList))) = false := by simpa using c7
       (try (have c7b1 : decide (a1_0 = ((rd_T50 l0 x8_1).f0) && (a1_1.toList == (((rd_T50 l0 x8_1).f1).toList))) = false := by simpa using c7))
       (try (have c7b2 : (a1_0 == ((rd_T50 l0 x8_1).f0) && (a1_1.toList == (((rd_T50 l0 x8_1).f1).toList))) = false := by simpa using c7))
       (try (have c7b3 : ¬ (a1_0 = ((rd_T50 l0 x8_1).f0) && (a1_1.toList == (((rd_T50 l0 x8_1).f1).toList))) := by simpa using c7))
       clear c7
       have H' := Aside0.mk H
       clear H
       obtain ⟨hcz9_0, hcz9_1, hfz9_0, hfz9_1⟩ := bk2 BK246.out
       have p247 : 0 ≤ (x8_1 : Int) := of_decide_eq_true AS
       have q247 : x8_1 < (l0.length : Int) := of_decide_eq_true AS
       obtain ⟨ad247, e247, hx247_0, hx247_1⟩ := at_T50 HR0.out x8_1 p247 q247
       cases e247
       replace hx247_0 := (HB.out.cell (World.block_lt_of_cell? w _ hx247_0)).trans hx247_0
       replace hx247_1 := (HB.out.cell (World.block_lt_of_cell? w _ hx247_1)).trans hx247_1
       replace p247 := eq_true p247
       replace q247 := eq_true q247
       go_wp2
       repeat (go_quiet (fail); try go_wp2)
       go_roundg k1
       case measure => have := HK1.out; omega
       case rel => exact ⟨(wrap64 (x8_1 + 1)), RS, H', ⟨by have := HK1.out; omega⟩, ⟨by (with_reducible repeat (first | refine blk_drewN ?_ _ | refine blk_drew ?_ | refine blk_alloc ?_ _)); exact BK246.out⟩, ⟨by repeat (first | (with_reducible first | exact HB.out | apply below_alloc | apply pw_below_drewN | apply below_drew1 | refine below_set ?_ GE246.out) | exact HB.out)⟩⟩
     ·rw [if_neg c6] at H
      exact absurd H (by simp)
    ·rw [if_neg c5] at H
     exact absurd H (by simp)
   ·rw [if_neg c4] at H
    have c4b0 : decide (x8_1 < (l0.length : Int)) = false := decide_eq_false c4
    clear c4
    obtain rfl := Option.some.inj H
    go_wp2
    repeat (go_quiet (fail); try go_wp2)
    go_ret
    exact ⟨by first | rfl | (simp [errW_none, errW_some] <;> rfl) | (simp [*, errW_none, errW_some] <;> rfl), BG⟩
end Go.Proofs.Ytcdflbbohnjegaa.G

namespace Go.Proofs.Ytcdflbbohnjegaa.G
open Go.RowKit Go.Proofs.YtcdflbbohnjegaaW.PrintWords Go.Proofs.YtcdflbbohnjegaaW.PrintLast Go.Proofs.YtcdflbbohnjegaaW.PrintMore Go.Proofs.Ytcdflbbohnjegaa.Sh
attribute [local go_sem] max2_int min2_int max_two min_two max_three min_three max_four min_four
set_option linter.unusedVariables false
set_option linter.unusedSimpArgs false
def slices_Contains_impl_Entry_impl_Entry.f (k : Nat) (l0 : List (S50)) (a1_0 : Int) (a1_1 : ByteArray) : Option (Bool) := (slices_Index_impl_Entry_impl_Entry.f k l0 a1_0 a1_1).bind fun t249 => (some (decide (t249 ≥ 0)))
theorem slices_Contains_impl_Entry_impl_Entry.mono : ∀ a0 a1 a2 k, LeO (slices_Contains_impl_Entry_impl_Entry.f k a0 a1 a2) (slices_Contains_impl_Entry_impl_Entry.f (k + 1) a0 a1 a2) := by
 intro a0 a1 a2 k
 unfold slices_Contains_impl_Entry_impl_Entry.f
 repeat' first | (with_reducible first | exact slices_Index_impl_Entry_impl_Entry.mono _ _ _ _ | exact LeO.refl _ | exact LeO.none _ | refine LeO.ite ?_ ?_ | refine LeO.bind ?_ (fun _ => ?_)) | exact slices_Index_impl_Entry_impl_Entry.mono _ _ _ _ | exact LeO.none _ | refine LeO.ite ?_ ?_ | refine LeO.bind ?_ (fun _ => ?_)
set_option maxHeartbeats 8000000 in
set_option maxRecDepth 100000 in
theorem slices_Contains_impl_Entry_impl_Entry.calls (k : Nat) (A0 : Option Addr) (c0 : Nat) (l0 : List (S50)) (a1_0 : Int) (a1_1 : ByteArray) (r : Bool) (w : World) (hr0 : Kd.C k50 w A0 l0.length l0) (hc0 : l0.length ≤ c0) (h : slices_Contains_impl_Entry_impl_Entry.f k l0 a1_0 a1_1 = some r) :
  Calls Try.prog 52 #[.slice A0 l0.length c0, .agg #[.int .i64 a1_0, .string a1_1]] w fun e w' => e = .returned (.bool r) ∧ Below w.heap.size w w' := by
 have hu50 := Try.underlying50
 have HR0 := Aside0.mk hr0
 have HC0 := Aside0.mk hc0
 clear hr0 hc0
 have HB := Aside0.mk (Below.refl w.heap.size w)
 have H : ((slices_Index_impl_Entry_impl_Entry.f k l0 a1_0 a1_1).bind fun t249 => (some (decide (t249 ≥ 0)))) = some r := h
 clear h
 replace H := BS H
 obtain ⟨t249, A30, H⟩ := H
 have A3 := Aside0.mk A30
 clear A30
 obtain rfl := Option.some.inj H
 go_enter Try.func52, Try.ntmps52
 go_wp2_with (first | ((with_reducible refine gate_dst (N := 3) rfl ?_); refine box_event ?hg (N := 3) ?hd (cs := #[.int .i64 a1_0, .string a1_1]) (t := 50) ?hr ?_; (case hd => rfl); (case hg => rfl); (case hr => first | (go_simp; done) | (go_simp; rfl)); intro gb248 hg w4 hbox hb; have n0_ := Aside0.mk (below_step BL hb); have n1_ := Aside0.mk (hbox); have n2_ := Aside0.mk ((by rw [hg]; exact (below_size BL) : w.heap.size ≤ gb248)); have n3_ := Aside0.mk ((by rw [hg]; exact (below_size BL) : w.heap.size ≤ gb248)); clear HB; have HB := n0_; have BK248 := n1_; have GW248 := n2_; have GE248 := n3_; clear n0_ n1_ n2_ n3_; clear hb hbox hg; obtain ⟨hcz5_0, hcz5_1, hfz5_0, hfz5_1⟩ := bk2 BK248.out) | ((with_reducible refine gate_callee (f := 81) rfl ?_); refine goesL_ (some 7) rfl rfl Try.func81 (by kernel_rfl) rfl #[.slice A0 l0.length c0, .agg #[.int .i64 a1_0, .string a1_1]] rfl AQ ?_; (with_reducible refine (slices_Index_impl_Entry_impl_Entry.calls k _ _ l0 a1_0 a1_1 t249 _ ?side1 ?side2 A3.out).mono ?_); (case side1 => exact SC HR0); (case side2 => exact HC0.out); rintro e w6 ⟨rfl, hb⟩; refine ⟨_, rfl, ?_⟩; have n0_ := Aside0.mk (blk_below (BD BK248) hb); have n1_ := Aside0.mk (below_step BG hb); clear BK248; clear HB; have BK248 := n0_; have HB := n1_; clear n0_ n1_; (try clear hb); (try clear hb2); (try clear hk); (try clear hi)))
 go_ret
 exact ⟨by first | rfl | (simp [errW_none, errW_some] <;> rfl) | (simp [*, errW_none, errW_some] <;> rfl), BG⟩
def impl_Has.f (k : Nat) (a0_0 : Int) (l0_1 : List (S50)) (a1 : ByteArray) : Option (Bool) := if a1.toList = ([] : List UInt8) then (some false) else ((impl_TableOk.f k a0_0 l0_1).bind fun t251 => (if t251 = true then ((impl_entryOf.f k a1).bind fun bt252 => ((slices_Contains_impl_Entry_impl_Entry.f k l0_1 bt252.1 bt252.2).bind fun t254 => (some t254))) else (some false)))
theorem impl_Has.mono : ∀ a0 a1 a2 k, LeO (impl_Has.f k a0 a1 a2) (impl_Has.f (k + 1) a0 a1 a2) := by
 intro a0 a1 a2 k
 unfold impl_Has.f
 repeat' first | (with_reducible first | exact impl_TableOk.mono _ _ _ | exact impl_entryOf.mono _ _ | exact slices_Contains_impl_Entry_impl_Entry.mono _ _ _ _ | exact LeO.refl _ | exact LeO.none _ | refine LeO.ite ?_ ?_ | refine LeO.bind ?_ (fun _ => ?_)) | exact impl_TableOk.mono _ _ _ | exact impl_entryOf.mono _ _ | exact slices_Contains_impl_Entry_impl_Entry.mono _ _ _ _ | exact LeO.none _ | refine LeO.ite ?_ ?_ | refine LeO.bind ?_ (fun _ => ?_)
def impl_Has.T1 : Bool × List (List Nat × List Nat) := (true, [([], []), ([0], [0]), ([1], [1]), ([2], [2]), ([3, 2, 2], [2, 3]), ([2, 4], [2, 4]), ([5, 4], [5]), ([6], [6]), ([7, 6], [6, 7]), ([6], [6]), ([9, 6, 6], [6, 9]), ([8, 10, 10, 6], [6, 8, 10]), ([6, 11], [6, 11]), ([12, 11, 0, 1, 2, 3, 4, 5, 6, 7, 8, 9, 10, 11, 12], [12])])
def impl_Has.B1 : List Nat := [0, 1, 3, 7, 15, 31, 63, 127, 255, 127, 639, 2047, 4095, 8191]
theorem impl_Has.tab1 : rtab .any (opsOf Try.f17 1) = impl_Has.T1 := by kernel_rfl
theorem impl_Has.bits1 : waitsOk impl_Has.T1.2 impl_Has.B1 = true := by kernel_rfl
set_option maxHeartbeats 8000000 in
set_option maxRecDepth 100000 in
theorem impl_Has.calls (k : Nat) (a0_0 : Int) (A0_1 : Option Addr) (c0_1 : Nat) (l0_1 : List (S50)) (a1 : ByteArray) (r : Bool) (w : World) (hr0_1 : Kd.C k50 w A0_1 l0_1.length l0_1) (hc0_1 : l0_1.length ≤ c0_1) (h : impl_Has.f k a0_0 l0_1 a1 = some r) :
  Calls Try.prog 17 #[.agg #[.int .i64 a0_0, .slice A0_1 l0_1.length c0_1], .string a1] w fun e w' => e = .returned (.bool r) ∧ Below w.heap.size w w' := by
 have hu29 := Try.underlying29
 have HR0_1 := Aside0.mk hr0_1
 have HC0_1 := Aside0.mk hc0_1
 clear hr0_1 hc0_1
 have HB := Aside0.mk (Below.refl w.heap.size w)
 have H : (if a1.toList = ([] : List UInt8) then (some false) else ((impl_TableOk.f k a0_0 l0_1).bind fun t251 => (if t251 = true then ((impl_entryOf.f k a1).bind fun bt252 => ((slices_Contains_impl_Entry_impl_Entry.f k l0_1 bt252.1 bt252.2).bind fun t254 => (some t254))) else (some false)))) = some r := h
 clear h
 by_cases c3 : a1.toList = ([] : List UInt8)
 ·rw [if_pos c3] at H
  have c3b0 : (a1.toList == ([] : List UInt8)) = true := beq_iff_eq.mpr c3
  have c3b1 : (a1.toList != ([] : List UInt8)) = false := bne_eq_false_iff_eq.mpr c3
  clear c3
  obtain rfl := Option.some.inj H
  go_enter Try.func17, Try.ntmps17
  try go_wp2_with (first | ((with_reducible refine gate_dst (N := 2) rfl ?_); refine box_event ?hg (N := 2) ?hd (cs := #[.int .i64 a0_0, .slice A0_1 l0_1.length c0_1]) (t := 29) ?hr ?_; (case hd => rfl); (case hg => rfl); (case hr => first | (go_simp; done) | (go_simp; rfl)); intro gb250 hg w4 hbox hb; have n0_ := Aside0.mk (below_step BL hb); have n1_ := Aside0.mk (hbox); have n2_ := Aside0.mk ((by rw [hg]; exact (below_size BL) : w.heap.size ≤ gb250)); have n3_ := Aside0.mk ((by rw [hg]; exact (below_size BL) : w.heap.size ≤ gb250)); clear HB; have HB := n0_; have BK250 := n1_; have GW250 := n2_; have GE250 := n3_; clear n0_ n1_ n2_ n3_; clear hb hbox hg))
  have n0_ := Aside0.mk (blk_drew BK250.out)
  have n1_ := Aside0.mk (below_drew1 HB.out)
  clear BK250
  clear HB
  have BK250 := n0_
  have HB := n1_
  clear n0_ n1_
  refine start_ (n := 14) (S := fun w' => True) (ds := []) #[false, false, false, false, false, false, false, false, false, false, false, false, false, false] (by kernel_rfl) rfl rfl trivial (fun hHeld => ?_); refine with_tabW impl_Has.tab1 impl_Has.bits1 (fun HT_ HW_ => ?_)
  generalize w4.drew = w5 at BK250 HB hHeld ⊢
  refine PU (i := 0) (N := some 5) (tf 1 13) rfl rfl HT_ ?_
  refine PU (i := 1) (N := some 6) (tf 2 12) rfl rfl HT_ ?_
  refine PU (i := 2) (N := some 7) (tf 3 11) rfl rfl HT_ ?_
  refine PN (i := 3) (N := some 8) (tf 4 10) rfl rfl HT_ ?_
  refine PN (i := 4) (N := some 9) (tf 5 9) rfl rfl HT_ ?_
  refine PU (i := 5) (N := some 10) (tf 6 8) rfl rfl HT_ ?_
  refine PU (i := 6) (N := some 11) (tf 7 7) rfl rfl HT_ ?_
  refine PN (i := 7) (N := some 12) (tf 8 6) rfl rfl HT_ ?_
  refine PN (i := 8) (N := some 13) (tf 9 5) rfl rfl HT_ ?_
  refine PN (i := 9) (N := some 14) (tf 10 4) rfl rfl HT_ ?_
  refine PN (i := 10) (N := some 15) (tf 11 3) rfl rfl HT_ ?_
  refine PN (i := 11) (N := some 16) (tf 12 2) rfl rfl HT_ ?_
  refine PU (i := 12) (N := some 17) (tf 13 1) rfl rfl HT_ ?_
  refine PU (i := 13) (N := some 4) (tf 14 0) rfl rfl HT_ ?_
  refine done_ (done_of HT_.out (by kernel_rfl)) ?_
  try go_wp2
  go_ret
  exact ⟨by first | rfl | (simp [errW_none, errW_some] <;> rfl) | (simp [*, errW_none, errW_some] <;> rfl), BG⟩
 ·rw [if_neg c3] at H
  have c3b0 : (a1.toList == ([] : List UInt8)) = false := beq_eq_false_iff_ne.mpr c3
  have c3b1 : (a1.toList != ([] : List UInt8)) = true := bne_iff_ne.mpr c3
  replace H := BS H
  obtain ⟨t251, A60, H⟩ := H
  have A6 := Aside0.mk A60
  clear A60
  by_cases c7 : t251 = true
  ·subst c7
   replace H := IP H
   replace H := BS H
   obtain ⟨⟨t252, t253⟩, A80, H⟩ := H
   have A8 := Aside0.mk A80
   clear A80
   replace H := BS H
   obtain ⟨t254, A90, H⟩ := H
   have A9 := Aside0.mk A90
   clear A90
   obtain rfl := Option.some.inj H
   go_enter Try.func17, Try.ntmps17
   try go_wp2_with (first | ((with_reducible refine gate_dst (N := 2) rfl ?_); refine box_event ?hg (N := 2) ?hd (cs := #[.int .i64 a0_0, .slice A0_1 l0_1.length c0_1]) (t := 29) ?hr ?_; (case hd => rfl); (case hg => rfl); (case hr => first | (go_simp; done) | (go_simp; rfl)); intro gb250 hg w10 hbox hb; have n0_ := Aside0.mk (below_step BL hb); have n1_ := Aside0.mk (hbox); have n2_ := Aside0.mk ((by rw [hg]; exact (below_size BL) : w.heap.size ≤ gb250)); have n3_ := Aside0.mk ((by rw [hg]; exact (below_size BL) : w.heap.size ≤ gb250)); clear HB; have HB := n0_; have BK250 := n1_; have GW250 := n2_; have GE250 := n3_; clear n0_ n1_ n2_ n3_; clear hb hbox hg))
   have n0_ := Aside0.mk (blk_drew BK250.out)
   have n1_ := Aside0.mk (below_drew1 HB.out)
   clear BK250
   clear HB
   have BK250 := n0_
   have HB := n1_
   clear n0_ n1_
   refine start_ (n := 14) (S := fun w' => w'.cell? ⟨gb250, 0, none⟩ = some (.int .i64 a0_0) ∧ w'.cell? ⟨gb250, 1, none⟩ = some (.slice A0_1 l0_1.length c0_1)) (ds := []) #[false, false, false, false, false, false, false, false, false, false, false, false, false, false] (by kernel_rfl) rfl rfl ⟨(blk_cell BK250.out 0).trans rfl, (blk_cell BK250.out 1).trans rfl⟩ (fun hHeld => ?_); refine with_tabW impl_Has.tab1 impl_Has.bits1 (fun HT_ HW_ => ?_)
   generalize w10.drew = w11 at BK250 HB hHeld ⊢
   refine PU (i := 0) (N := some 5) (tf 1 13) rfl rfl HT_ ?_
   refine PU (i := 1) (N := some 6) (tf 2 12) rfl rfl HT_ ?_
   refine PU (i := 2) (N := some 7) (tf 3 11) rfl rfl HT_ ?_
   refine PT (i := 3) (N := some 8) (tf 4 10) rfl rfl HT_ HW_ hHeld ?_
   refine one_ (i := 4) (N := some 9) (tf 5 9) rfl rfl (one_of HT_.out (by kernel_rfl)) (by decide) (fun K hK => ?_)
   refine goes_ Try.func14 (by kernel_rfl) rfl #[.agg #[.int .i64 a0_0, .slice A0_1 l0_1.length c0_1]] (by rfl) rfl rfl AQ ?_
   with_reducible refine (impl_TableOk.calls k a0_0 _ _ l0_1 true _ ?side1 ?side2 A6.out).mono ?_
   (case side1 => exact SC HR0_1)
   (case side2 => exact HC0_1.out)
   rintro e w12 ⟨rfl, hb⟩
   refine ⟨_, rfl, ?_⟩
   have n0_ := Aside0.mk (blk_below (BD BK250) hb)
   have n1_ := Aside0.mk (below_step BG hb)
   clear BK250
   clear HB
   have BK250 := n0_
   have HB := n1_
   clear n0_ n1_
   (try clear hb)
   (try clear hb2)
   (try clear hk)
   (try clear hi)
   refine hK.out _ _ ⟨(blk_cell BK250.out 0).trans rfl, (blk_cell BK250.out 1).trans rfl⟩ (fun hHeld => ?_)
   clear hK K
   refine NM (some 9) ?_
   refine PU (i := 5) (N := some 10) (tf 6 8) rfl rfl HT_ ?_
   refine PU (i := 6) (N := some 11) (tf 7 7) rfl rfl HT_ ?_
   refine PU (i := 7) (N := some 12) (tf 8 6) rfl rfl HT_ ?_
   refine PU (i := 9) (N := some 14) #[true, true, true, true, true, true, true, true, false, true, false, false, false, false] rfl rfl HT_ ?_
   refine PT (i := 8) (N := some 13) (tf 10 4) rfl rfl HT_ HW_ hHeld ?_
   refine one_ (i := 10) (N := some 15) (tf 11 3) rfl rfl (one_of HT_.out (by kernel_rfl)) (by decide) (fun K hK => ?_)
   refine goes_ Try.func48 (by kernel_rfl) rfl #[.string a1] (by rfl) rfl rfl AQ ?_
   with_reducible refine (impl_entryOf.calls k a1 t252 t253 _ A8.out).mono ?_
   rintro e w13 ⟨rfl, hb⟩
   refine ⟨_, rfl, ?_⟩
   have n0_ := Aside0.mk (blk_below (BD BK250) hb)
   have n1_ := Aside0.mk (below_step BG hb)
   clear BK250
   clear HB
   have BK250 := n0_
   have HB := n1_
   clear n0_ n1_
   (try clear hb)
   (try clear hb2)
   (try clear hk)
   (try clear hi)
   refine hK.out _ _ ⟨(blk_cell BK250.out 0).trans rfl, (blk_cell BK250.out 1).trans rfl⟩ (fun hHeld => ?_)
   clear hK K
   refine NM (some 15) ?_
   refine one_ (i := 11) (N := some 16) (tf 12 2) rfl rfl (one_of HT_.out (by kernel_rfl)) (by decide) (fun K hK => ?_)
   refine goes_ Try.func52 (by kernel_rfl) rfl #[.slice A0_1 l0_1.length c0_1, .agg #[.int .i64 t252, .string t253]] (by rfl) rfl rfl AQ ?_
   with_reducible refine (slices_Contains_impl_Entry_impl_Entry.calls k _ _ l0_1 t252 t253 t254 _ ?side1 ?side2 A9.out).mono ?_
   (case side1 => exact SC HR0_1)
   (case side2 => exact HC0_1.out)
   rintro e w14 ⟨rfl, hb⟩
   refine ⟨_, rfl, ?_⟩
   have n0_ := Aside0.mk (blk_below (BD BK250) hb)
   have n1_ := Aside0.mk (below_step BG hb)
   clear BK250
   clear HB
   have BK250 := n0_
   have HB := n1_
   clear n0_ n1_
   (try clear hb)
   (try clear hb2)
   (try clear hk)
   (try clear hi)
   refine hK.out _ _ ⟨(blk_cell BK250.out 0).trans rfl, (blk_cell BK250.out 1).trans rfl⟩ (fun hHeld => ?_)
   clear hK K
   refine NM (some 16) ?_
   refine PU (i := 12) (N := some 17) (tf 13 1) rfl rfl HT_ ?_
   refine PU (i := 13) (N := some 4) (tf 14 0) rfl rfl HT_ ?_
   refine done_ (done_of HT_.out (by kernel_rfl)) ?_
   try go_wp2
   go_ret
   exact ⟨by first | rfl | (simp [errW_none, errW_some] <;> rfl) | (simp [*, errW_none, errW_some] <;> rfl), BG⟩
  ·replace c7 := Bool.eq_false_iff.mpr c7
   subst c7
   replace H := IN H
   obtain rfl := Option.some.inj H
   go_enter Try.func17, Try.ntmps17
   try go_wp2_with (first | ((with_reducible refine gate_dst (N := 2) rfl ?_); refine box_event ?hg (N := 2) ?hd (cs := #[.int .i64 a0_0, .slice A0_1 l0_1.length c0_1]) (t := 29) ?hr ?_; (case hd => rfl); (case hg => rfl); (case hr => first | (go_simp; done) | (go_simp; rfl)); intro gb250 hg w15 hbox hb; have n0_ := Aside0.mk (below_step BL hb); have n1_ := Aside0.mk (hbox); have n2_ := Aside0.mk ((by rw [hg]; exact (below_size BL) : w.heap.size ≤ gb250)); have n3_ := Aside0.mk ((by rw [hg]; exact (below_size BL) : w.heap.size ≤ gb250)); clear HB; have HB := n0_; have BK250 := n1_; have GW250 := n2_; have GE250 := n3_; clear n0_ n1_ n2_ n3_; clear hb hbox hg))
   have n0_ := Aside0.mk (blk_drew BK250.out)
   have n1_ := Aside0.mk (below_drew1 HB.out)
   clear BK250
   clear HB
   have BK250 := n0_
   have HB := n1_
   clear n0_ n1_
   refine start_ (n := 14) (S := fun w' => w'.cell? ⟨gb250, 0, none⟩ = some (.int .i64 a0_0) ∧ w'.cell? ⟨gb250, 1, none⟩ = some (.slice A0_1 l0_1.length c0_1)) (ds := []) #[false, false, false, false, false, false, false, false, false, false, false, false, false, false] (by kernel_rfl) rfl rfl ⟨(blk_cell BK250.out 0).trans rfl, (blk_cell BK250.out 1).trans rfl⟩ (fun hHeld => ?_); refine with_tabW impl_Has.tab1 impl_Has.bits1 (fun HT_ HW_ => ?_)
   generalize w15.drew = w16 at BK250 HB hHeld ⊢
   refine PU (i := 0) (N := some 5) (tf 1 13) rfl rfl HT_ ?_
   refine PU (i := 1) (N := some 6) (tf 2 12) rfl rfl HT_ ?_
   refine PU (i := 2) (N := some 7) (tf 3 11) rfl rfl HT_ ?_
   refine PT (i := 3) (N := some 8) (tf 4 10) rfl rfl HT_ HW_ hHeld ?_
   refine one_ (i := 4) (N := some 9) (tf 5 9) rfl rfl (one_of HT_.out (by kernel_rfl)) (by decide) (fun K hK => ?_)
   refine goes_ Try.func14 (by kernel_rfl) rfl #[.agg #[.int .i64 a0_0, .slice A0_1 l0_1.length c0_1]] (by rfl) rfl rfl AQ ?_
   with_reducible refine (impl_TableOk.calls k a0_0 _ _ l0_1 false _ ?side1 ?side2 A6.out).mono ?_
   (case side1 => exact SC HR0_1)
   (case side2 => exact HC0_1.out)
   rintro e w17 ⟨rfl, hb⟩
   refine ⟨_, rfl, ?_⟩
   have n0_ := Aside0.mk (blk_below (BD BK250) hb)
   have n1_ := Aside0.mk (below_step BG hb)
   clear BK250
   clear HB
   have BK250 := n0_
   have HB := n1_
   clear n0_ n1_
   (try clear hb)
   (try clear hb2)
   (try clear hk)
   (try clear hi)
   refine hK.out _ _ ⟨(blk_cell BK250.out 0).trans rfl, (blk_cell BK250.out 1).trans rfl⟩ (fun hHeld => ?_)
   clear hK K
   refine NM (some 9) ?_
   refine PU (i := 5) (N := some 10) (tf 6 8) rfl rfl HT_ ?_
   refine PU (i := 6) (N := some 11) (tf 7 7) rfl rfl HT_ ?_
   refine PN (i := 7) (N := some 12) (tf 8 6) rfl rfl HT_ ?_
   refine PN (i := 8) (N := some 13) (tf 9 5) rfl rfl HT_ ?_
   refine PN (i := 9) (N := some 14) (tf 10 4) rfl rfl HT_ ?_
   refine PN (i := 10) (N := some 15) (tf 11 3) rfl rfl HT_ ?_
   refine PN (i := 11) (N := some 16) (tf 12 2) rfl rfl HT_ ?_
   refine PU (i := 12) (N := some 17) (tf 13 1) rfl rfl HT_ ?_
   refine PU (i := 13) (N := some 4) (tf 14 0) rfl rfl HT_ ?_
   refine done_ (done_of HT_.out (by kernel_rfl)) ?_
   try go_wp2
   go_ret
   exact ⟨by first | rfl | (simp [errW_none, errW_some] <;> rfl) | (simp [*, errW_none, errW_some] <;> rfl), BG⟩
def impl_copyTable.f (a0_0 : Int) (l0_1 : List (S50)) : Option (Int × (List (S50))) := if ([] : List (S50)).length + l0_1.length < 5864062014805 then (some (a0_0, (([] : List (S50)) ++ l0_1))) else (none)
set_option maxHeartbeats 8000000 in
set_option maxRecDepth 100000 in
theorem impl_copyTable.calls (a0_0 : Int) (A0_1 : Option Addr) (c0_1 : Nat) (l0_1 : List (S50)) (r1 : Int) (r2 : List (S50)) (w : World) (hr0_1 : Kd.C k50 w A0_1 l0_1.length l0_1) (hc0_1 : l0_1.length ≤ c0_1) (h : impl_copyTable.f a0_0 l0_1 = some (r1, r2)) :
  Calls Try.prog 54 #[.agg #[.int .i64 a0_0, .slice A0_1 l0_1.length c0_1]] w fun e w' => ∃ v1_ : Value, e = .returned (.agg #[.int .i64 r1, v1_]) ∧ Kd.R k50 50 w' w.heap.size (fun _ => True) v1_ r2 ∧ Below w.heap.size w w' := by
 have hu29 := Try.underlying29
 have HR0_1 := Aside0.mk hr0_1
 have HC0_1 := Aside0.mk hc0_1
 clear hr0_1 hc0_1
 have HB := Aside0.mk (Below.refl w.heap.size w)
 have H : (if ([] : List (S50)).length + l0_1.length < 5864062014805 then (some (a0_0, (([] : List (S50)) ++ l0_1))) else (none)) = some (r1, r2) := h
 clear h
 by_cases c2 : ([] : List (S50)).length + l0_1.length < 5864062014805
 ·rw [if_pos c2] at H
  have LMc2 := Aside0.mk c2
  clear c2
  obtain ⟨y291, hy291⟩ : ∃ y_ : List (S50), y_ = (([] : List (S50)) ++ l0_1) := ⟨_, rfl⟩
  replace H : (some (a0_0, y291)) = some (r1, r2) := by first | (rw [hy291]; with_reducible exact H) | (have H2_ := (Option.bind_some _ _).symm.trans H; rw [hy291]; with_reducible exact H2_) | (have H2_ := (Option.bind_some _ _).symm.trans H; with_reducible exact H2_) | with_reducible exact H | (rw [hy291]; exact H) | exact H
  have Ny291 := Aside0.mk hy291
  clear hy291
  simp only [Option.some.injEq, Prod.mk.injEq] at H
  obtain ⟨rfl, rfl⟩ := H
  go_enter Try.func54, Try.ntmps54
  try go_wp2_with (first | ((with_reducible refine gate_dst (N := 1) rfl ?_); refine box_event ?hg (N := 1) ?hd (cs := #[.int .i64 a0_0, .slice A0_1 l0_1.length c0_1]) (t := 29) ?hr ?_; (case hd => rfl); (case hg => rfl); (case hr => first | (go_simp; done) | (go_simp; rfl)); intro gb289 hg w3 hbox hb; have n0_ := Aside0.mk (below_step BL hb); have n1_ := Aside0.mk (hbox); have n2_ := Aside0.mk ((by rw [hg]; exact (below_size BL) : w.heap.size ≤ gb289)); have n3_ := Aside0.mk ((by rw [hg]; exact (below_size BL) : w.heap.size ≤ gb289)); clear HB; have HB := n0_; have BK289 := n1_; have GW289 := n2_; have GE289 := n3_; clear n0_ n1_ n2_ n3_; clear hb hbox hg) | ((with_reducible refine gate_dst (N := 2) rfl ?_); refine box_event ?hg (N := 2) ?hd (cs := #[.int .i64 0, .slice none 0 0]) (t := 29) ?hr ?_; (case hd => rfl); (case hg => rfl); (case hr => first | (go_simp; done) | (go_simp; rfl)); intro gb290 hg w4 hbox hb; have n0_ := Aside0.mk (blk_below (BD BK289) hb); have n1_ := Aside0.mk (below_step BG hb); have n2_ := Aside0.mk (hbox); have n3_ := Aside0.mk ((by rw [hg]; exact (below_size BG) : w.heap.size ≤ gb290)); have n4_ := Aside0.mk ((by rw [hg]; exact (below_size BG) : w.heap.size ≤ gb290)); have n5_ := Aside0.mk ((by rw [hg]; exact Nat.ne_of_lt (blk_lt (BD BK289)) : gb289 ≠ gb290)); have n6_ := Aside0.mk ((by rw [hg]; exact Nat.ne_of_gt (blk_lt (BD BK289)) : gb290 ≠ gb289)); clear BK289; clear HB; have BK289 := n0_; have HB := n1_; have BK290 := n2_; have GW290 := n3_; have GE290 := n4_; have NB289_290 := n5_; have NB290_289 := n6_; clear n0_ n1_ n2_ n3_ n4_ n5_ n6_; clear hb hbox hg))
  have n0_ := Aside0.mk (blk_drew BK289.out)
  have n1_ := Aside0.mk (blk_drew BK290.out)
  have n2_ := Aside0.mk (below_drew1 HB.out)
  clear BK289
  clear BK290
  clear HB
  have BK289 := n0_
  have BK290 := n1_
  have HB := n2_
  clear n0_ n1_ n2_
  refine start_ (n := 7) (S := fun w' => w'.cell? ⟨gb289, 0, none⟩ = some (.int .i64 a0_0) ∧ w'.cell? ⟨gb289, 1, none⟩ = some (.slice A0_1 l0_1.length c0_1)) (ds := []) #[false, false, false, false, false, false, false] (by kernel_rfl) rfl rfl ⟨(blk_cell BK289.out 0).trans rfl, (blk_cell BK289.out 1).trans rfl⟩ (fun hHeld => ?_)
  generalize w4.drew = w5 at BK289 BK290 HB hHeld ⊢
  refine PV (i := 0) (N := some 3) (tf 1 6) rfl rfl ?_
  refine PV (i := 2) (N := some 5) #[true, false, true, false, false, false, false] rfl rfl ?_
  refine PK (i := 1) (N := some 4) (tf 3 4) rfl rfl hHeld ?_
  refine PK (i := 3) (N := some 6) (tf 4 3) rfl rfl hHeld ?_
  refine one_ (i := 4) (N := some 7) (tf 5 2) rfl rfl (by kernel_rfl) (by decide) (fun K hK => ?_)
  refine Kd.R_append_rows_step k50 (w0 := w) w.heap.size rfl (.const (.slice none 0 0)) (.tmp 6) 27 50 (.agg #[(.int .i64 0), (.string ⟨#[]⟩)]) 24 rfl Try.underlying27 info50 rfl (by decide) (by omega) (.slice none 0 0) ([] : List (S50)) l0_1 _ _ _ (fun _ => True) (fun _ => False) rfl rfl ?aO ?aR (fun _ _ h => h) (fun _ h => h.elim) ?aF ?aB ?aS ?aL ?_
  (case aR => repeat (first | exact (Kd.C_below HR0_1.out HB.out) | (with_reducible refine Kd.C_alloc ?_ _) | (with_reducible refine Kd.C_drewN ?_ _) | (with_reducible refine Kd.C_drew ?_)))
  (case aB => exact BG)
  (case aF => exact (fun _ _ => trivial))
  (case aO => exact ((Kd.R_nil _ _ _ _ (fun _ => True))))
  (case aS => exact (below_size BG))
  (case aL => have := LMc2.out; omega)
  intro v292 w6 ho hb hg hat
  rw [← Ny291.out] at ho
  have n0_ := Aside0.mk (blk_grown (g := gb289) (o := .cells #[.int .i64 a0_0, .slice A0_1 l0_1.length c0_1] 29 (0, 0)) (by (with_reducible repeat (first | refine blk_drewN ?_ _ | refine blk_drew ?_ | refine blk_alloc ?_ _)); exact BK289.out) hg (by simp [Value.ownBlock]))
  have n1_ := Aside0.mk (blk_grown (g := gb290) (o := .cells #[.int .i64 0, .slice none 0 0] 29 (0, 0)) (by (with_reducible repeat (first | refine blk_drewN ?_ _ | refine blk_drew ?_ | refine blk_alloc ?_ _)); exact BK290.out) hg (by simp [Value.ownBlock]))
  have n2_ := Aside0.mk (hb)
  have n3_ := Aside0.mk (ho)
  clear BK289
  clear BK290
  clear HB
  have BK289 := n0_
  have BK290 := n1_
  have HB := n2_
  have HO293 := n3_
  clear n0_ n1_ n2_ n3_
  clear ho hb hg hat
  obtain ⟨Ao7, co7, eo7⟩ := Kd.R_slice HO293.out
  (first | subst eo7 | (injection eo7 with f1_ f2_ f3_; have f4_ := f1_.symm; have f5_ := f3_.symm; clear f1_ f2_ f3_; subst f4_; subst f5_))
  refine hK.out _ _ ⟨(blk_cell BK289.out 0).trans rfl, (blk_cell BK289.out 1).trans rfl⟩ (fun hHeld => ?_)
  clear hK K
  refine NM (some 7) ?_
  refine PV (i := 5) (N := some 8) (tf 6 1) rfl rfl ?_
  refine one_ (i := 6) (N := none) (tf 7 0) rfl rfl (by kernel_rfl) (by decide) (fun K hK => ?_)
  have hs8 : w6.cell? ⟨gb290, 0, none⟩ = some (.int .i64 0) := (blk_cell BK290.out 0).trans rfl
  have hfs8 := blk_frozen BK290.out 0
  have hns8_0 := NB289_290.out
  have hms8_0 := NB290_289.out
  have hs9 : w6.cell? ⟨gb290, 1, none⟩ = some (.slice none 0 0) := (blk_cell BK290.out 1).trans rfl
  have hfs9 := blk_frozen BK290.out 1
  have hns9_0 := NB289_290.out
  have hms9_0 := NB290_289.out
  refine skip_ (w1 := ?_) (by rfl) rfl ?_ ?_
  rotate_left
  ·go_simp
   rfl
  refine hK.out _ _ ⟨((cell_far (p := ⟨gb290, _, none⟩) NB289_290.out _).trans (((cell_far (p := ⟨gb290, _, none⟩) NB289_290.out _).trans (hHeld.1)))), ((cell_far (p := ⟨gb290, _, none⟩) NB289_290.out _).trans (((cell_far (p := ⟨gb290, _, none⟩) NB289_290.out _).trans (hHeld.2))))⟩ (fun hHeld => ?_)
  clear hK K
  refine done_ (by kernel_rfl) ?_
  try go_wp2
  refine bodyPost_ret (results_cell_row rfl _ _ gb290 29 #[.int .i64 a0_0, .slice Ao7 y291.length co7] (0, 0) _ rfl (by (with_reducible repeat (first | refine blk_drewN ?_ _ | refine blk_drew ?_ | refine blk_alloc ?_ _)); refine blk_put (cs := #[.int .i64 a0_0, .slice none 0 0]) ?_ 1 _ rfl; (with_reducible repeat (first | refine blk_drewN ?_ _ | refine blk_drew ?_ | refine blk_alloc ?_ _)); refine blk_put (cs := #[.int .i64 0, .slice none 0 0]) ?_ 0 _ rfl; (with_reducible repeat (first | refine blk_drewN ?_ _ | refine blk_drew ?_ | refine blk_alloc ?_ _)); exact BK290.out) Try.underlying29 rfl (by kernel_rfl)) rfl ?_
  exact ⟨_, by first | rfl | (simp [errW_none, errW_some] <;> rfl) | (simp [*, errW_none, errW_some] <;> rfl), by (with_reducible repeat (first | apply Kd.R_alloc | apply Kd.R_drewN | apply Kd.R_drew)); exact Kd.R_mono (FR (FR (Kd.R_types HO293.out BK290.out (by decide)))) (fun _ hk => trivial), BG⟩
 ·rw [if_neg c2] at H
  exact absurd H (by simp)
end Go.Proofs.Ytcdflbbohnjegaa.G

namespace Go.Proofs.Ytcdflbbohnjegaa.Ins
open Go.RowKit Go.Proofs.YtcdflbbohnjegaaW.PrintWords Go.Proofs.YtcdflbbohnjegaaW.PrintLast Go.Proofs.YtcdflbbohnjegaaW.PrintMore
set_option linter.unusedVariables false
section
variable {P : Program}
theorem run_copy_cellsN (w : World) (dT sT ty elem : TypeId) (sz b o dLen dCap : Nat) (a : Addr) (sLen sCap : Nat) (cs : List Value)
  (hu : P.underlying dT = some (.slice elem)) (hs : (P.info? elem).map (·.size) = some sz) (hn : cs.length = Nat.min sLen dLen * sz)
  (hsrc : ∀ j v, cs[j]? = some v → w.cell? (a.add j) = some v) (hc : ∀ j, j < cs.length → (w.cell? ⟨b, o + j, none⟩).isSome = true) (hf : ∀ j, j < cs.length → w.frozen? ⟨b, o + j, none⟩ = false) (h1 : ∀ v ∈ cs, v.oneCell' = true) :
  (Builtin.copy_ #[dT, sT] ty #[.slice (some ⟨b, o, none⟩) dLen dCap, .slice (some a) sLen sCap]).run P w = .ok (goInt (Nat.min sLen dLen)) (w.setCells b o cs) := by
 have hl := run_loadCells_list (P := P) w a cs hsrc
 have hst := run_storeCells_cells (P := P) b o cs 0 w (by simpa using hc) (by simpa using hf) h1
 cases hq : P.info? elem with
 | none => simp [hq] at hs
 | some i =>
  have hi : i.size = sz := by simpa [hq] using hs
  rw [hn] at hl
  simp [Builtin.copy_, run_underlying hu, Builtin.lenOf, Builtin.firstCells, sizeOf, typeInfo, hq, hi, hl, hst]
theorem R_insert_shift {α : Type} (d : Kd α) {W : World} (base : Nat) (e : TypeId) {g n c i : Nat} {xs : List α} {x : α} {ok : Nat → Prop} (HO : d.R e W base ok (.slice (some ⟨g, 0, none⟩) n c) xs) (hi : i ≤ n) (hroom : n + 1 ≤ c)
  (seg : List Value) (hseg : seg.length = d.sz) (hM : d.M W base (fun k' => ok k' ∧ some k' ≠ (Value.slice (some ⟨g, 0, none⟩) n c).ownBlock) x seg) :
  ∃ inner : List Value, inner.length = n * d.sz ∧ (∀ j v, inner[j]? = some v → W.cell? ⟨g, j, none⟩ = some v) ∧ (∀ j, j < c * d.sz → (W.cell? ⟨g, j, none⟩).isSome = true) ∧ (∀ j, W.frozen? ⟨g, j, none⟩ = false) ∧ (∀ v ∈ inner, v.oneCell' = true) ∧
   d.R e ((W.setCells g ((i + 1) * d.sz) (inner.drop (i * d.sz))).setCells g (i * d.sz) seg) base ok (.slice (some ⟨g, 0, none⟩) (n + 1) c) (xs.take i ++ x :: xs.drop i) ∧
   W.grownBy ((W.setCells g ((i + 1) * d.sz) (inner.drop (i * d.sz))).setCells g (i * d.sz) seg) (some g) := by
 obtain ⟨hn, hnc, _⟩ := Kd.R_reads' HO
 obtain ⟨hok, inner, hown, hr⟩ := HO
 have hin : inner.length = n * d.sz := by rw [hr.1, hn]
 rcases hown.2 with ⟨hv, _⟩ | ⟨g', cap', cur, hv, hb, hh, _, hcm, hcs, htake⟩
 ·cases hv
 injection hv with ha _ hc
 injection ha with ha
 injection ha with hg
 subst hg; subst hc
 rw [← hn] at htake
 have hcur : ∀ q, q < n * d.sz → cur.toList[q]? = inner[q]? := by
  intro q hq
  rw [← htake, List.getElem?_take, if_pos hq]
 have hone : ∀ u ∈ inner, u.oneCell' = true := by
  intro u hu'
  obtain ⟨q, hq, rfl⟩ := List.mem_iff_getElem.1 hu'
  have hs0 : 0 < d.sz := by
   rcases Nat.eq_zero_or_pos d.sz with h | h
   ·rw [h, Nat.mul_zero] at hin; omega
   ·exact h
  have hql : q / d.sz < xs.length := by
   rw [Nat.div_lt_iff_lt_mul hs0, ← hr.1]
   exact hq
  refine d.K_one (d.K_of_M (hr.2 (q / d.sz) _ (List.getElem?_eq_getElem hql))) _ ?_
  rw [List.mem_iff_getElem?]
  refine ⟨q % d.sz, ?_⟩
  rw [List.getElem?_take, if_pos (Nat.mod_lt _ hs0), List.getElem?_drop, Nat.mul_comm, Nat.div_add_mod, List.getElem?_eq_getElem hq]
 have hisz : (i + 1) * d.sz = i * d.sz + d.sz := Nat.succ_mul _ _
 have hnsz : (n + 1) * d.sz = n * d.sz + d.sz := Nat.succ_mul _ _
 have hle : i * d.sz ≤ n * d.sz := Nat.mul_le_mul_right _ hi
 have hcc : (n + 1) * d.sz ≤ c * d.sz := Nat.mul_le_mul_right _ hroom
 obtain ⟨news, hnews⟩ : ∃ news, news = inner.drop (i * d.sz) := ⟨_, rfl⟩
 have hnl : news.length = n * d.sz - i * d.sz := by rw [hnews, List.length_drop, hin]
 obtain ⟨cur1, h3, h4, h5⟩ := setCells_row news ((i + 1) * d.sz) W cur hh (by omega)
 obtain ⟨cur2, k3, k4, k5⟩ := setCells_row seg (i * d.sz) (W.setCells g ((i + 1) * d.sz) news) cur1 h3 (by omega)
 obtain ⟨s1, s2, s3, s4⟩ := setCells_same g news ((i + 1) * d.sz) W
 obtain ⟨t1, t2, t3, t4⟩ := setCells_same g seg (i * d.sz) (W.setCells g ((i + 1) * d.sz) news)
 have hfar : ∀ k', k' ≠ g → ((W.setCells g ((i + 1) * d.sz) news).setCells g (i * d.sz) seg).heap[k']? = W.heap[k']? := fun k' hk' => (setCells_far seg _ k' hk').trans (setCells_far news _ k' hk')
 have hgo : ∀ m, some g = (Value.slice (some ⟨g, 0, none⟩) m c).ownBlock := fun m => by simp [Value.ownBlock]
 have hel : (xs.take i ++ x :: xs.drop i).length = n + 1 := by simp [hn]; omega
 refine ⟨inner, hin, fun j v hj => ?_, fun j hj => ?_, fun j => blk_frozen hh _, hone, ?_⟩
 ·have hjl : j < inner.length := (List.getElem?_eq_some_iff.1 hj).1
  rw [cell_of_row W g _ cur e (0, 0) hh, ← Array.getElem?_toList, hcur _ (by omega)]
  exact hj
 ·rw [cell_of_row W g _ cur e (0, 0) hh]
  simp; omega
 rw [← hnews]
 refine ⟨⟨fun k' hk' => hok k' (by rw [← hgo] at hk' ⊢; exact hk'), inner.take (i * d.sz) ++ (seg ++ news), ⟨?_, .inr ⟨g, c, cur2, by rw [hel], hb, k3, by rw [hel]; omega, hcm, by rw [k4, h4, hcs], ?_⟩⟩, ?_⟩, ⟨by rw [t1, s1], by rw [t2, s2], by rw [t3, s3], by rw [t4, s4]; exact Nat.le_refl _, fun k' _ hk' => hfar k' (fun he => hk' (by rw [he]))⟩⟩
 ·rw [List.length_append, List.length_append, List.length_take, hnl, hel, hseg]
  omega
 ·rw [hel, k5, h5]
  have h7 : (cur.toList.take ((i + 1) * d.sz) ++ news ++ cur.toList.drop ((i + 1) * d.sz + news.length)).take (i * d.sz) = inner.take (i * d.sz) := by
   rw [List.append_assoc, List.take_append_of_le_length (by rw [List.length_take, Array.length_toList, hcs]; omega), List.take_take, Nat.min_eq_left (by omega), ← htake, List.take_take, Nat.min_eq_left hle]
  have h8 : (cur.toList.take ((i + 1) * d.sz) ++ news ++ cur.toList.drop ((i + 1) * d.sz + news.length)).drop (i * d.sz + seg.length) = news ++ cur.toList.drop ((i + 1) * d.sz + news.length) := by
   rw [hseg, ← hisz, List.append_assoc]
   exact List.drop_left' (by rw [List.length_take, Array.length_toList, hcs]; omega)
  rw [h7, h8, List.append_assoc, ← List.append_assoc seg, ← List.append_assoc]
  exact List.take_left' (by rw [List.length_append, List.length_append, List.length_take, hnl, hseg]; omega)
 ·have hmv : ∀ p q, d.M W base (fun k' => ok k' ∧ some k' ≠ (Value.slice (some ⟨g, 0, none⟩) n c).ownBlock) p q → d.M ((W.setCells g ((i + 1) * d.sz) news).setCells g (i * d.sz) seg) base (fun k' => ok k' ∧ some k' ≠ (Value.slice (some ⟨g, 0, none⟩) (n + 1) c).ownBlock) p q := fun p q hp =>
   d.M_mono (fun k' hk' => ⟨hk'.1, by rw [← hgo]; rw [← hgo] at hk'; exact hk'.2⟩) (d.M_move (fun k' hk' => hfar k' (fun he => hk'.2 (by rw [← hgo, he]))) hp)
  subst hnews
  refine Kd.reps_append ((Kd.reps_take hr (by omega)).imp_ hmv) ?_
  refine Kd.reps_append (ps := [x]) (qs := xs.drop i) ⟨by simpa using hseg, fun j p hj => ?_⟩ ((Kd.reps_drop hr).imp_ hmv)
  have hj0 : j = 0 := by
   have := (List.getElem?_eq_some_iff.1 hj).1
   simpa using this
  subst hj0
  obtain rfl : x = p := by simpa using hj
  rw [Nat.zero_mul, List.drop_zero, List.take_of_length_le (by omega)]
  exact hmv _ _ hM
end
end Go.Proofs.Ytcdflbbohnjegaa.Ins

namespace Go.Proofs.Ytcdflbbohnjegaa.G
open Go.RowKit Go.Proofs.YtcdflbbohnjegaaW.PrintWords Go.Proofs.YtcdflbbohnjegaaW.PrintLast Go.Proofs.YtcdflbbohnjegaaW.PrintMore Go.Proofs.Ytcdflbbohnjegaa.Sh
attribute [local go_sem] max2_int min2_int max_two min_two max_three min_three max_four min_four
set_option linter.unusedVariables false
set_option linter.unusedSimpArgs false
open Go.Proofs.Ytcdflbbohnjegaa.Man
open Go.Shelf Go.Lib Go.Proofs.Ytcdflbbohnjegaa.Ins
set_option maxHeartbeats 4000000 in
set_option maxRecDepth 100000 in
theorem ins_shift (b n c i vb vc : Nat) (w : World) (hi : i < n) (hroom : n + 1 ≤ c) (hc63 : c ≤ 9223372036854775807) (hvb : vb ≠ b)
  (W1 W2 : World) (v1 v2 : Value)
  (hcp1 : ∀ ty dc sc, (Builtin.copy_ #[27, 27] ty #[.slice (some ⟨b, (i + 1) * 2, none⟩) (n - i) dc, .slice (some ⟨b, i * 2, none⟩) (n + 1 - i) sc]).run Try.prog w.drew = .ok v1 W1)
  (hcp2 : ∀ ty dc, (Builtin.copy_ #[27, 27] ty #[.slice (some ⟨b, i * 2, none⟩) (n + 1 - i) dc, .slice (some ⟨vb, 0, none⟩) 1 vc]).run Try.prog W1 = .ok v2 W2)
  (hov : ∀ lb cb, (callFunc 90 #[.slice (some ⟨vb, 0, none⟩) 1 vc, .slice (some ⟨b, (i + 1) * 2, none⟩) lb cb]).run Try.prog w = .ok (.value (.bool false)) w) :
  Calls Try.prog 86 #[.slice (some ⟨b, 0, none⟩) n c, .int .i64 i, .slice (some ⟨vb, 0, none⟩) 1 vc] w fun e w' =>
   e = .returned (.slice (some ⟨b, 0, none⟩) (n + 1) c) ∧ w' = W2 := by
 have hz2 : ¬ ((i : Int) = (n : Int)) := by omega
 have mixed : Try.prog.follows .mixedOrders = true := by kernel_rfl
 have hw1 : IntKind.i64.wrap ((i : Int) + 1) = (i : Int) + 1 := by rw [IntKind.wrap_i64]; omega
 have hw2 : IntKind.i64.wrap ((n : Int) + 1) = (n : Int) + 1 := by rw [IntKind.wrap_i64]; omega
 have hb1 : (0 : Int) ≤ (i : Int) + 1 := by omega
 have hb0 : (0 : Int) ≤ (i : Int) := by omega
 have hin : i ≤ n := by omega
 have hin2 : (i : Int) ≤ (n : Int) := by omega
 have htn : ((i : Int) + 1).toNat = i + 1 := by omega
 have hb2 : ¬ (c = i + 1) := by omega
 have hb3 : (i : Int) ≤ (n : Int) + 1 := by omega
 have hb4 : ¬ (c = i) := by omega
 have hb5 : (i : Int) + 1 ≤ (n : Int) + 1 := by omega
 have hb6 : (n : Int) + 1 ≤ (c : Int) := by omega
 have hb7 : (0 : Int) ≤ (n : Int) + 1 := by omega
 have hb8 : (n : Int) ≤ (c : Int) := by omega
 have hb9 : ¬ ((n : Int) + 1 > (c : Int)) := by omega
 go_enter Try.func86, Try.ntmps86
 go_wp2_with (simp only [hov])
 go_region_law_o (refine step_copy_runI rfl _ _ 27 27 rfl _ _ (by simp [Act.eval, Act.put]) (by simp [Act.eval, Act.put]) (hcp1 _ _ _) ?_)
 go_wp2_with (at_builtin; refine wpList_copy_runI _ rfl _ _ 27 27 rfl _ _ rfl rfl (hcp2 _ _) ?_)
 go_ret
 exact ⟨rfl, rfl⟩
set_option maxHeartbeats 4000000 in
set_option maxRecDepth 100000 in
theorem ins_grow (b n c i vb vc g G : Nat) (w : World) (hi : i < n) (hnc : n ≤ c) (hroom : c < n + 1) (hc63 : n + 1 ≤ 9223372036854775807) (hGn : n + 1 ≤ G) (hG63 : G ≤ 9223372036854775807)
  (W1 W2 W3 : World) (v2 v3 : Value)
  (hrz : ∀ ty, (Builtin.append_ #[27, 3] ty #[.slice (some ⟨b, 0, none⟩) i c, .int .i64 ((n : Int) + 1 - (i : Int))]).run Try.prog w = .ok (.slice (some ⟨g, 0, none⟩) (n + 1) G) W1)
  (hcpA : ∀ ty dc, (Builtin.copy_ #[27, 27] ty #[.slice (some ⟨g, i * 2, none⟩) (n + 1 - i) dc, .slice (some ⟨vb, 0, none⟩) 1 vc]).run Try.prog W1 = .ok v2 W2)
  (hcpB : ∀ ty dc sc, (Builtin.copy_ #[27, 27] ty #[.slice (some ⟨g, (i + 1) * 2, none⟩) (n - i) dc, .slice (some ⟨b, i * 2, none⟩) (n - i) sc]).run Try.prog W2.drew = .ok v3 W3) :
  Calls Try.prog 86 #[.slice (some ⟨b, 0, none⟩) n c, .int .i64 i, .slice (some ⟨vb, 0, none⟩) 1 vc] w fun e w' =>
   e = .returned (.slice (some ⟨g, 0, none⟩) (n + 1) G) ∧ w' = W3 := by
 have hz2 : ¬ ((i : Int) = (n : Int)) := by omega
 have hz3 : (c : Int) < (n : Int) + 1 := by omega
 have mixed : Try.prog.follows .mixedOrders = true := by kernel_rfl
 have hw1 : IntKind.i64.wrap ((i : Int) + 1) = (i : Int) + 1 := by rw [IntKind.wrap_i64]; omega
 have hw2 : IntKind.i64.wrap ((n : Int) + 1) = (n : Int) + 1 := by rw [IntKind.wrap_i64]; omega
 have hw3 : IntKind.i64.wrap ((n : Int) + 1 - (i : Int)) = (n : Int) + 1 - (i : Int) := by rw [IntKind.wrap_i64]; omega
 have hb1 : (0 : Int) ≤ (i : Int) + 1 := by omega
 have hb0 : (0 : Int) ≤ (i : Int) := by omega
 have hin : i ≤ n := by omega
 have hin2 : (i : Int) ≤ (n : Int) := by omega
 have hin3 : (i : Int) ≤ (c : Int) := by omega
 have htn : ((i : Int) + 1).toNat = i + 1 := by omega
 have hb3 : (i : Int) ≤ (n : Int) + 1 := by omega
 have hci : ¬ (c = i) := by omega
 have hGi : ¬ (G = i) := by omega
 have hGi1 : ¬ (G = i + 1) := by omega
 have hb5 : (i : Int) + 1 ≤ (n : Int) + 1 := by omega
 have hb7 : (0 : Int) ≤ (n : Int) + 1 := by omega
 go_enter Try.func86, Try.ntmps86
 go_wp2_with (first
  | (at_builtin; refine Lib.wpList_append_run _ rfl _ _ _ _ rfl _ _ rfl rfl _ _ (hrz _) ?_)
  | (at_builtin; refine wpList_copy_runI _ rfl _ _ 27 27 rfl _ _ rfl rfl (hcpA _ _) ?_))
 go_region_law_o (refine step_copy_runI rfl _ _ 27 27 rfl (.slice (some ⟨g, (i + 1) * 2, none⟩) (n - i) (G - (i + 1))) (.slice (some ⟨b, i * 2, none⟩) (n - i) (c - i)) (by simp [Act.eval, Act.put]) (by simp [Act.eval, Act.put]) (hcpB _ _ _) ?_)
 go_wp2
 go_ret
 exact ⟨rfl, rfl⟩
/-- What is told of a row of one element, as cells. -/
theorem one_cells {w : World} {base : Nat} {ok : Nat → Prop} {vb vc : Nat} {x : S50} (HV : Kd.R k50 50 w base ok (.slice (some ⟨vb, 0, none⟩) [x].length vc) [x]) :
  ∃ cur : Array Value, w.heap[vb]? = some (.cells cur 50 (0, 0)) ∧ 2 ≤ cur.size ∧ (∀ j v, ([.int .i64 x.f0, .string x.f1] : List Value)[j]? = some v → w.cell? ⟨vb, j, none⟩ = some v) := by
 obtain ⟨_, seg, hown, hr⟩ := HV
 rcases hown.2 with ⟨hv, _⟩ | ⟨g', cap', cur, hv, hb, hh, hle, hcm, hcs, htake⟩
 ·cases hv
 injection hv with ha _ hc
 injection ha with ha
 injection ha with hg
 subst hg; subst hc
 have hsz : k50.sz = 2 := rfl
 have hM := k50_openM (hr.2 0 x rfl)
 rw [Nat.zero_mul, List.drop_zero, List.take_of_length_le (by rw [hr.1]; simp)] at hM
 rw [hM, hsz] at htake
 rw [hsz] at hcs
 have h2 : 2 ≤ cur.size := by rw [hcs]; have : 1 ≤ vc := hle; omega
 refine ⟨cur, hh, h2, fun j v hj => ?_⟩
 rw [cell_of_row w vb _ cur 50 (0, 0) hh, ← Array.getElem?_toList]
 have hj2 : j < 2 := (List.getElem?_eq_some_iff.1 hj).1
 rw [← hj, ← htake, List.getElem?_take, if_pos (by simpa using hj2)]
set_option maxHeartbeats 4000000 in
theorem ins_shift_R (w : World) (base : Nat) (okP okV : Nat → Prop) (g n c i vb vc : Nat) (xs : List S50) (x : S50) (hi : i < n) (hroom : n + 1 ≤ c) (hc63 : c ≤ 9223372036854775807) (hvb : vb ≠ g)
  (HO : Kd.R k50 50 w base okP (.slice (some ⟨g, 0, none⟩) n c) xs) (HV : Kd.R k50 50 w base okV (.slice (some ⟨vb, 0, none⟩) [x].length vc) [x]) :
  Calls Try.prog 86 #[.slice (some ⟨g, 0, none⟩) n c, .int .i64 i, .slice (some ⟨vb, 0, none⟩) 1 vc] w fun e w' =>
   e = .returned (.slice (some ⟨g, 0, none⟩) (n + 1) c) ∧ Kd.R k50 50 w' base okP (.slice (some ⟨g, 0, none⟩) (n + 1) c) (xs.take i ++ x :: xs.drop i) ∧ w.grownBy w' (some g) := by
 have hsz : k50.sz = 2 := rfl
 obtain ⟨cv, hcv, hcv2, hvs⟩ := one_cells HV
 obtain ⟨inner, hil, hin, hsp, hfz, h1c, hR, hG⟩ := R_insert_shift k50 base 50 (Kd.R_drew HO) (Nat.le_of_lt hi) hroom [.int .i64 x.f0, .string x.f1] rfl (k50_mkM _ _ _ x)
 rw [hsz] at hil hsp hR hG
 have hu : Try.prog.underlying 27 = some (.slice 50) := Try.underlying27
 have hss : (Try.prog.info? 50).map (·.size) = some 2 := by kernel_rfl
 have hdl : (inner.drop (i * 2)).length = (n - i) * 2 := by rw [List.length_drop, hil, Nat.sub_mul]
 have hb1 : (n - i) * 2 + (i + 1) * 2 = n * 2 + 2 := by omega
 obtain ⟨cur, hcur, hcurs⟩ : ∃ cur : Array Value, w.heap[g]? = some (.cells cur 50 (0, 0)) ∧ cur.size ≠ 0 := by
  obtain ⟨_, seg, hown, hr⟩ := HO
  rcases hown.2 with ⟨hv, _⟩ | ⟨g', cap', cur, hv, hb, hh, hle, hcm, hcs, htake⟩
  ·cases hv
  injection hv with ha _ hc
  injection ha with ha
  injection ha with hg
  subst hg; subst hc
  exact ⟨cur, hh, by rw [hcs, hsz]; omega⟩
 have hov : ∀ lb cb, (callFunc 90 #[.slice (some ⟨vb, 0, none⟩) 1 vc, .slice (some ⟨g, (i + 1) * 2, none⟩) lb cb]).run Try.prog w = .ok (.value (.bool false)) w := fun lb cb => by
  rw [run_callFunc_extern Try.func90 (by kernel_rfl) (by kernel_rfl) (by kernel_rfl) (e := Extern.SlicesOverlaps.overlaps #[27, 27] #[4]) (by kernel_rfl),
   Lib.run_overlaps_apart w 27 4 50 hu 2 Try.sizeOf50 ⟨vb, 0, none⟩ ⟨g, (i + 1) * 2, none⟩ 1 vc lb cb hvb 50 50 cv.size cur.size (by unfold World.shape?; rw [hcv]) (by unfold World.shape?; rw [hcur]) hcurs (blk_frozen hcv 0) (blk_frozen hcv _)]
  rfl
 obtain ⟨W1, hW1⟩ : ∃ W1, W1 = w.drew.setCells g ((i + 1) * 2) (inner.drop (i * 2)) := ⟨_, rfl⟩
 have hcp1 : ∀ ty dc sc, (Builtin.copy_ #[27, 27] ty #[.slice (some ⟨g, (i + 1) * 2, none⟩) (n - i) dc, .slice (some ⟨g, i * 2, none⟩) (n + 1 - i) sc]).run Try.prog w.drew = .ok (goInt (Nat.min (n + 1 - i) (n - i))) W1 := fun ty dc sc => by
  rw [hW1]
  refine run_copy_cellsN w.drew 27 27 ty 50 2 g ((i + 1) * 2) (n - i) dc ⟨g, i * 2, none⟩ (n + 1 - i) sc (inner.drop (i * 2)) hu hss (by rw [hdl, show Nat.min (n + 1 - i) (n - i) = n - i from Nat.min_eq_right (by omega)]) ?_ (fun j hj => hsp _ (by omega)) (fun j _ => hfz _) (fun v hv => h1c v (List.mem_of_mem_drop hv))
  intro j v hj
  rw [Addr.add_lit]
  exact hin _ v (by rwa [List.getElem?_drop] at hj)
 have hcp2 : ∀ ty dc, (Builtin.copy_ #[27, 27] ty #[.slice (some ⟨g, i * 2, none⟩) (n + 1 - i) dc, .slice (some ⟨vb, 0, none⟩) 1 vc]).run Try.prog W1 = .ok (goInt (Nat.min 1 (n + 1 - i))) (W1.setCells g (i * 2) [.int .i64 x.f0, .string x.f1]) := fun ty dc => by
  refine run_copy_cellsN W1 27 27 ty 50 2 g (i * 2) (n + 1 - i) dc ⟨vb, 0, none⟩ 1 vc [.int .i64 x.f0, .string x.f1] hu hss (by rw [show Nat.min 1 (n + 1 - i) = 1 from Nat.min_eq_left (by omega)]; rfl) ?_ (fun j hj => ?_) (fun j _ => by rw [hW1, World.frozen?_setCells]; exact hfz _) (by simp [Value.oneCell'])
  ·intro j v hj
   rw [Addr.add_lit, hW1, World.cell?_setCells_out g _ _ _ _ (fun h _ => absurd h hvb)]
   rw [Nat.zero_add]
   exact hvs j v hj
  ·rw [hW1]
   have hj2 : j < 2 := hj
   exact isSome_setCells g _ _ _ (fun j hj => hsp _ (by omega)) _ (hsp _ (by omega))
 rw [← hW1] at hR hG
 refine (ins_shift g n c i vb vc w hi hroom hc63 hvb W1 _ _ _ hcp1 hcp2 hov).mono ?_
 rintro e w' ⟨rfl, rfl⟩
 exact ⟨rfl, hR, World.grownBy.trans (show w.grownBy w.drew (some g) from ⟨rfl, rfl, rfl, Nat.le_refl _, fun _ _ _ => rfl⟩) hG⟩
set_option maxHeartbeats 4000000 in
theorem ins_grow_R (w : World) (base : Nat) (okP okV : Nat → Prop) (b n c i vb vc : Nat) (xs : List S50) (x : S50) (hi : i < n) (hnc : n ≤ c) (hroom : c < n + 1) (hbig : (n + 1) * 24 ≤ 140737488355328) (hbase : base ≤ w.heap.size)
  (HO : Kd.R k50 50 w base okP (.slice (some ⟨b, 0, none⟩) n c) xs) (HV : Kd.R k50 50 w base okV (.slice (some ⟨vb, 0, none⟩) [x].length vc) [x]) :
  Calls Try.prog 86 #[.slice (some ⟨b, 0, none⟩) n c, .int .i64 i, .slice (some ⟨vb, 0, none⟩) 1 vc] w fun e w' =>
   ∃ v, e = .returned v ∧ Kd.R k50 50 w' base (fun k => w.heap.size ≤ k) v (xs.take i ++ x :: xs.drop i) ∧ Below w.heap.size w w' := by
 have hsz : k50.sz = 2 := rfl
 obtain ⟨cv, hcv, hcv2, hvs⟩ := one_cells HV
 have hxn := (Kd.R_reads' HO).1
 obtain ⟨inner, hil, hin, h1c, hr⟩ : ∃ inner : List Value, inner.length = n * 2 ∧ (∀ j v, inner[j]? = some v → w.cell? ⟨b, j, none⟩ = some v) ∧ (∀ v ∈ inner, v.oneCell' = true) ∧ Reps (fun p q => q = [.int .i64 p.f0, .string p.f1]) 2 xs inner := by
  obtain ⟨_, inner, hown, hr⟩ := HO
  have hr2 : Reps (fun (p : S50) q => q = [.int .i64 p.f0, .string p.f1]) 2 xs inner := hr.imp_ (fun p q hp => k50_openM hp)
  have hil : inner.length = n * 2 := by rw [hr2.1, hxn]
  rcases hown.2 with ⟨hv, _⟩ | ⟨g', cap', cur, hv, hb, hh, hle, hcm, hcs, htake⟩
  ·cases hv
  injection hv with ha _ hc
  injection ha with ha
  injection ha with hg
  subst hg; subst hc
  rw [hsz, ← hxn] at htake
  refine ⟨inner, hil, fun j v hj => ?_, fun u hu => ?_, hr2⟩
  ·have hjl : j < inner.length := (List.getElem?_eq_some_iff.1 hj).1
   rw [cell_of_row w b _ cur 50 (0, 0) hh, ← Array.getElem?_toList, ← hj, ← htake, List.getElem?_take, if_pos (by omega)]
  ·obtain ⟨q, hq, rfl⟩ := List.mem_iff_getElem.1 hu
   have hql : q / 2 < xs.length := by omega
   have h2 := hr2.2 (q / 2) _ (List.getElem?_eq_getElem hql)
   have hm : inner[q] ∈ (inner.drop (q / 2 * 2)).take 2 := by
    rw [List.mem_iff_getElem?]
    refine ⟨q % 2, ?_⟩
    rw [List.getElem?_take, if_pos (Nat.mod_lt _ (by omega)), List.getElem?_drop, Nat.mul_comm, Nat.div_add_mod, List.getElem?_eq_getElem hq]
   rw [h2] at hm
   simp at hm
   rcases hm with h | h <;> rw [h] <;> rfl
 have hu : Try.prog.underlying 27 = some (.slice 50) := Try.underlying27
 have hss : (Try.prog.info? 50).map (·.size) = some 2 := by kernel_rfl
 obtain ⟨i0, hi0, hz0, hzs, hzb⟩ := info_parts (P := Try.prog) (e := 50) (z := .agg #[.int .i64 0, .string ⟨#[]⟩]) (size := 2) (bytes := 24) (by kernel_rfl)
 have hold : (Builtin.firstCells i0.size i (.slice (some ⟨b, 0, none⟩) i c)).run Try.prog w.drew = .ok (inner.take (i * 2)).toArray w.drew := by
  rw [hzs]
  exact run_firstCells_some w.drew 2 i ⟨b, 0, none⟩ i c (inner.take (i * 2)) (by rw [List.length_take]; omega) (fun j v hj => by
   rw [Addr.add_lit, Nat.zero_add]
   rw [List.getElem?_take] at hj
   split at hj
   ·exact hin j v hj
   ·cases hj)
 have hik : i + (n + 1 - i) = n + 1 := by omega
 have hkk : (n : Int) + 1 - (i : Int) = ((n + 1 - i : Nat) : Int) := by omega
 obtain ⟨G, hGe⟩ : ∃ G, G = grownCap w (n + 1) c 50 := ⟨_, rfl⟩
 obtain ⟨ROW, hROW⟩ : ∃ ROW : Array Value, ROW = (inner.take (i * 2)).toArray ++ Builtin.zeroCells (Value.agg #[.int .i64 0, .string ⟨#[]⟩]).cells (n + 1 - i) ++ Builtin.zeroCells (Value.agg #[.int .i64 0, .string ⟨#[]⟩]).cells (G - (n + 1)) := ⟨_, rfl⟩
 obtain ⟨W1, hW1⟩ : ∃ W1, W1 = w.drew.alloc (.cells ROW 50) := ⟨_, rfl⟩
 have hrz : ∀ ty, (Builtin.append_ #[27, 3] ty #[.slice (some ⟨b, 0, none⟩) i c, .int .i64 ((n : Int) + 1 - (i : Int))]).run Try.prog w = .ok (.slice (some ⟨w.heap.size, 0, none⟩) (n + 1) G) W1 := fun ty => by
  have h := Lib.run_append_grow_zeros w 27 3 ty 50 i0 _ .i64 .i64 hu Try.underlying3 hi0 hz0 (some ⟨b, 0, none⟩) i c (inner.take (i * 2)) hold (n + 1 - i) (by omega) (by omega) (by omega) (by omega) (by rw [hzb]; omega) (by rw [hzb, hik]; exact growslice_fits hroom hbig)
  rw [hik, ← hGe, ← hROW, ← hW1] at h
  rw [hkk]
  exact h
 have hGn : n + 1 ≤ G := by rw [hGe]; exact grownCap_ge w _ _ _
 have hGm : G ≤ maxLen := by rw [hGe]; exact grownCap_le_maxLen w (n + 1) c 50 (by unfold maxLen; omega)
 have hG63 : G ≤ 9223372036854775807 := by unfold maxLen at hGm; omega
 have hRs : ROW.size = G * 2 := by
  rw [hROW]
  simp [Builtin.zeroCells, Value.cells]
  omega
 have hRt : ROW.toList.take (i * 2) = inner.take (i * 2) := by
  rw [hROW, Array.toList_append, Array.toList_append, List.append_assoc]
  exact List.take_left' (by simp; omega)
 have hh1 : W1.heap[w.heap.size]? = some (.cells ROW 50 (0, 0)) := by rw [hW1]; exact blk_new w.drew _
 have hbw : b < w.heap.size := block_lt_of_cell (hin 0 _ (List.getElem?_eq_getElem (by omega)))
 have hvw : vb < w.heap.size := blk_lt hcv
 clear hkk hik hold hROW hGe
 have hcpA : ∀ ty dc, (Builtin.copy_ #[27, 27] ty #[.slice (some ⟨w.heap.size, i * 2, none⟩) (n + 1 - i) dc, .slice (some ⟨vb, 0, none⟩) 1 vc]).run Try.prog W1 = .ok (goInt (Nat.min 1 (n + 1 - i))) (W1.setCells w.heap.size (i * 2) [.int .i64 x.f0, .string x.f1]) := fun ty dc => by
  refine run_copy_cellsN W1 27 27 ty 50 2 w.heap.size (i * 2) (n + 1 - i) dc ⟨vb, 0, none⟩ 1 vc [.int .i64 x.f0, .string x.f1] hu hss (by rw [show Nat.min 1 (n + 1 - i) = 1 from Nat.min_eq_left (by omega)]; rfl) ?_ (fun j hj => ?_) (fun j _ => blk_frozen hh1 _) (by simp [Value.oneCell'])
  ·intro j v hj
   rw [Addr.add_lit, Nat.zero_add, hW1, World.cell?_alloc_past (w := w.drew) _ vb j hvw]
   exact hvs j v hj
  ·have hj2 : j < 2 := hj
   rw [blk_cell hh1, Array.getElem?_eq_getElem (by omega)]; rfl
 obtain ⟨cur1, k3, k4, k5⟩ := setCells_row [.int .i64 x.f0, .string x.f1] (i * 2) W1 ROW hh1 (by simp; omega)
 obtain ⟨W2, hW2⟩ : ∃ W2, W2 = W1.setCells w.heap.size (i * 2) [.int .i64 x.f0, .string x.f1] := ⟨_, rfl⟩
 obtain ⟨news, hnews⟩ : ∃ news, news = inner.drop (i * 2) := ⟨_, rfl⟩
 have hnl : news.length = (n - i) * 2 := by rw [hnews, List.length_drop, hil, Nat.sub_mul]
 have hcpB : ∀ ty dc sc, (Builtin.copy_ #[27, 27] ty #[.slice (some ⟨w.heap.size, (i + 1) * 2, none⟩) (n - i) dc, .slice (some ⟨b, i * 2, none⟩) (n - i) sc]).run Try.prog W2.drew = .ok (goInt (Nat.min (n - i) (n - i))) (W2.drew.setCells w.heap.size ((i + 1) * 2) news) := fun ty dc sc => by
  have k3' : W2.drew.heap[w.heap.size]? = some (.cells cur1 50 (0, 0)) := by rw [hW2]; exact k3
  refine run_copy_cellsN W2.drew 27 27 ty 50 2 w.heap.size ((i + 1) * 2) (n - i) dc ⟨b, i * 2, none⟩ (n - i) sc news hu hss (by rw [hnl, show Nat.min (n - i) (n - i) = n - i from Nat.min_self _]) ?_ (fun j hj => ?_) (fun j _ => blk_frozen k3' _) (fun v hv => h1c v (by rw [hnews] at hv; exact List.mem_of_mem_drop hv))
  ·intro j v hj
   rw [Addr.add_lit]
   show W2.cell? _ = _
   rw [hW2, World.cell?_setCells_out w.heap.size _ _ _ _ (fun h _ => absurd h (Nat.ne_of_lt hbw)), hW1, World.cell?_alloc_past (w := w.drew) _ b _ hbw]
   exact hin _ v (by rw [hnews, List.getElem?_drop] at hj; exact hj)
  ·rw [blk_cell k3', Array.getElem?_eq_getElem (by omega)]; rfl
 rw [← hW2] at hcpA k3
 obtain ⟨cur2, h3, h4, h5⟩ := setCells_row news ((i + 1) * 2) W2.drew cur1 k3 (by omega)
 obtain ⟨s1, s2, s3, s4⟩ := setCells_same w.heap.size [.int .i64 x.f0, .string x.f1] (i * 2) W1
 obtain ⟨t1, t2, t3, t4⟩ := setCells_same w.heap.size news ((i + 1) * 2) W2.drew
 refine (ins_grow b n c i vb vc w.heap.size G w hi hnc hroom (by omega) hGn hG63 W1 W2 _ _ _ hrz hcpA hcpB).mono ?_
 rintro e w' ⟨rfl, rfl⟩
 refine ⟨_, rfl, ?_, ?_⟩
 ·have hel : (xs.take i ++ x :: xs.drop i).length = n + 1 := by simp [← hxn]; omega
  refine ⟨fun k' hk' => by simp [Value.ownBlock] at hk'; omega, inner.take (i * 2) ++ ([.int .i64 x.f0, .string x.f1] ++ news), ⟨?_, .inr ⟨w.heap.size, G, cur2, by rw [hel], hbase, h3, by rw [hel]; exact hGn, hGm, by rw [h4, k4, hRs, hsz], ?_⟩⟩, ?_⟩
  ·rw [hel, hsz]
   simp [hnl, hil]
   omega
  ·rw [hel, hsz, h5, k5]
   have h7 : ∀ D : List Value, (ROW.toList.take (i * 2) ++ ([.int .i64 x.f0, .string x.f1] : List Value) ++ D).take ((i + 1) * 2) = inner.take (i * 2) ++ ([.int .i64 x.f0, .string x.f1] : List Value) := fun D => by
    rw [hRt]
    exact List.take_left' (by simp [hil]; omega)
   rw [h7, List.take_left' (by simp [hnl, hil]; omega), List.append_assoc]
  ·have hmv : ∀ (p : S50) q, q = [.int .i64 p.f0, .string p.f1] → k50.M (W2.drew.setCells w.heap.size ((i + 1) * 2) news) base (fun k => w.heap.size ≤ k ∧ some k ≠ (Value.slice (some ⟨w.heap.size, 0, none⟩) (n + 1) G).ownBlock) p q := fun p q hq => by rw [hq]; exact k50_mkM _ _ _ p
   subst hnews
   rw [hsz]
   refine Kd.reps_append ((Kd.reps_take hr (by omega)).imp_ hmv) ?_
   refine Kd.reps_append (ps := [x]) (qs := xs.drop i) ⟨rfl, fun j p hj => ?_⟩ ((Kd.reps_drop hr).imp_ hmv)
   have hj0 : j = 0 := by
    have := (List.getElem?_eq_some_iff.1 hj).1
    simpa using this
   subst hj0
   obtain rfl : x = p := by simpa using hj
   exact hmv _ _ rfl
 ·have b1 : Below w.heap.size w W1 := by rw [hW1]; exact below_alloc (below_drew1 (Below.refl _ _)) _
  have g2 : W1.grownBy W2 (some w.heap.size) := ⟨by rw [hW2, s1], by rw [hW2, s2], by rw [hW2, s3], by rw [hW2, s4]; exact Nat.le_refl _, fun k' _ hk' => by rw [hW2]; exact setCells_far _ _ k' (fun he => hk' (by rw [he]))⟩
  have g3 : W2.drew.grownBy (W2.drew.setCells w.heap.size ((i + 1) * 2) news) (some w.heap.size) := ⟨by rw [t1], by rw [t2], by rw [t3], by rw [t4]; exact Nat.le_refl _, fun k' _ hk' => setCells_far _ _ k' (fun he => hk' (by rw [he]))⟩
  have b2 := b1.grown g2 b1.size (fun k hk => by injection hk with hk; omega)
  have b3 := below_drew1 b2
  exact b3.grown g3 b3.size (fun k hk => by injection hk with hk; omega)
set_option maxHeartbeats 4000000 in
set_option maxRecDepth 100000 in
theorem ins_end_R (w0 w : World) (okP okV : Nat → Prop) (v : Value) (vb vc : Nat) (xs : List S50) (x : S50) (hB : Below w0.heap.size w0 w) (hbig : (xs.length + 1) * 24 ≤ 140737488355328)
  (HO : Kd.R k50 50 w w0.heap.size okP v xs) (HV : Kd.R k50 50 w w0.heap.size okV (.slice (some ⟨vb, 0, none⟩) [x].length vc) [x]) :
  Calls Try.prog 86 #[v, .int .i64 (xs.length : Int), .slice (some ⟨vb, 0, none⟩) 1 vc] w fun e w' =>
   ∃ v1, e = .returned v1 ∧ Kd.R k50 50 w' w0.heap.size (fun k => okP k ∨ w.heap.size ≤ k) v1 (xs ++ [x]) ∧ Below w0.heap.size w0 w' ∧ w.grownBy w' v.ownBlock := by
 obtain ⟨A0, c0, rfl⟩ := Kd.R_slice HO
 have hlc := (Kd.R_reads' HO).2.1
 have hC := Aside0.mk (show ReadsRow (k50.K w) 2 w (some ⟨vb, 0, none⟩) 1 [x] from (Kd.R_reads' HV).2.2)
 have HO1 := Aside0.mk (Kd.R_mono HO (ok' := fun k => okP k ∨ w.heap.size ≤ k) (fun _ h => .inl h))
 have HBW := Aside0.mk hB
 have hb1 : (xs.length : Int) ≤ (xs.length : Int) := by omega
 have hb2 : (0 : Int) ≤ (xs.length : Int) := by omega
 have hb3 : (xs.length : Int) ≤ (c0 : Int) := by omega
 have hbg := Aside0.mk hbig
 have hbe : ((xs.length : Int) == (xs.length : Int)) = true := beq_self_eq_true _
 obtain ⟨ob, hob⟩ : ∃ ob, ob = (Value.slice A0 xs.length c0).ownBlock := ⟨_, rfl⟩
 have HOB := Aside0.mk hob
 rw [← hob]
 clear hob
 clear HO HV hB hbig
 by_cases hcn : c0 = xs.length
 ·subst hcn
  go_enter Try.func86, Try.ntmps86
  go_wp2_with (first | ((with_reducible refine gate_builtin (b := .append) (xs := #[.tmp 23, .tmp 24]) rfl ?_); refine Kd.R_append_rows k50 (w0 := w0) w0.heap.size rfl (.tmp 23) (.tmp 24) 27 50 (.agg #[.int .i64 0, .string ⟨#[]⟩]) 24 rfl Try.underlying27 (by kernel_rfl) rfl (by decide) (by decide) _ xs [x] (some ⟨vb, 0, none⟩) 1 vc (fun k => okP k ∨ w.heap.size ≤ k) (fun _ => False) rfl rfl HO1.out hC.out (fun p q hp => by rw [k50_open hp]; exact k50_mkM _ _ _ p) (fun _ h => h.elim) (fun _ h => .inr h) HBW.out HBW.out.size hbg.out ?_; intro v1 w1 hr hb hg hat; have HR := Aside0.mk hr; have HB2 := Aside0.mk hb; have HG2 := Aside0.mk (show w.grownBy w1 ob from by rw [HOB.out]; exact hg); clear hr hb hg hat))
  go_ret
  exact ⟨_, rfl, HR.out, HB2.out, HG2.out⟩
 ·have hcf : (c0 = xs.length) = False := eq_false hcn
  go_enter Try.func86, Try.ntmps86
  go_wp2_with (first | ((with_reducible refine gate_builtin (b := .append) (xs := #[.tmp 23, .tmp 24]) rfl ?_); refine Kd.R_append_rows k50 (w0 := w0) w0.heap.size rfl (.tmp 23) (.tmp 24) 27 50 (.agg #[.int .i64 0, .string ⟨#[]⟩]) 24 rfl Try.underlying27 (by kernel_rfl) rfl (by decide) (by decide) _ xs [x] (some ⟨vb, 0, none⟩) 1 vc (fun k => okP k ∨ w.heap.size ≤ k) (fun _ => False) rfl rfl HO1.out hC.out (fun p q hp => by rw [k50_open hp]; exact k50_mkM _ _ _ p) (fun _ h => h.elim) (fun _ h => .inr h) HBW.out HBW.out.size hbg.out ?_; intro v1 w1 hr hb hg hat; have HR := Aside0.mk hr; have HB2 := Aside0.mk hb; have HG2 := Aside0.mk (show w.grownBy w1 ob from by rw [HOB.out]; exact hg); clear hr hb hg hat))
  go_ret
  exact ⟨_, rfl, HR.out, HB2.out, HG2.out⟩
def slices_Insert_impl_Entry_impl_Entry.f (l0 : List S50) (a1 : Int) (l2 : List S50) : Option (List S50) := if 0 ≤ a1 ∧ a1 ≤ (l0.length : Int) ∧ l2.length = 1 ∧ (l0.length + 1) * 24 ≤ 140737488355328 then some (l0.take a1.toNat ++ l2 ++ l0.drop a1.toNat) else none
set_option maxHeartbeats 4000000 in
theorem slices_Insert_impl_Entry_impl_Entry.calls (P0_ : Nat → Prop) (u9000_ : Value) (l0 : List S50) (a1 : Int) (P2_ : Nat → Prop) (u9001_ : Value) (l2 : List S50) (r : List S50) (w0 w : World) (hB : Below w0.heap.size w0 w) (ho0 : Kd.R k50 50 w w0.heap.size P0_ u9000_ l0) (hp0_2 : ∀ k_, P0_ k_ → ¬ P2_ k_) (ho2 : Kd.R k50 50 w w0.heap.size P2_ u9001_ l2) (hp2_0 : ∀ k_, P2_ k_ → ¬ P0_ k_) (h : slices_Insert_impl_Entry_impl_Entry.f l0 a1 l2 = some r) :
  Calls Try.prog 86 #[u9000_, .int .i64 a1, u9001_] w fun e w' => ∃ v0_ : Value, e = .returned v0_ ∧ Kd.R k50 50 w' w0.heap.size (fun k_ => ((P0_ k_ ∨ P2_ k_) ∨ w.heap.size ≤ k_)) v0_ r ∧ Below w0.heap.size w0 w' ∧ Kept w w' (fun k_ => P0_ k_ ∨ P2_ k_) := by
 unfold slices_Insert_impl_Entry_impl_Entry.f at h
 by_cases c : 0 ≤ a1 ∧ a1 ≤ (l0.length : Int) ∧ l2.length = 1 ∧ (l0.length + 1) * 24 ≤ 140737488355328
 rotate_left
 ·rw [if_neg c] at h; cases h
 rw [if_pos c] at h
 obtain rfl := Option.some.inj h
 clear h
 obtain ⟨c0, c1, c2, c3⟩ := c
 obtain ⟨i, rfl⟩ := Int.eq_ofNat_of_zero_le c0
 obtain ⟨x, rfl⟩ := List.length_eq_one_iff.1 c2
 obtain ⟨vb, vc, rfl, vbb, vbl, vcl, VG⟩ := Kd.R_form ho2 (by simp)
 rw [Int.toNat_natCast]
 by_cases hin : i = l0.length
 ·subst hin
  refine (ins_end_R w0 w P0_ P2_ u9000_ vb vc l0 x hB c3 ho0 ho2).mono ?_
  rintro e w' ⟨v1, rfl, hr, hb, hg⟩
  refine ⟨v1, rfl, ?_, hb, Kept.of_grown hg (Kept.refl _ _) (fun k hk => .inl (.inl (ho0.1 k hk)))⟩
  rw [List.take_length, List.drop_length, List.append_nil]
  exact Kd.R_mono hr (fun k hk => hk.elim (fun h => .inl (.inl h)) .inr)
 ·have hi : i < l0.length := by omega
  obtain ⟨g, cap, rfl, gb, gl, cl, HG⟩ := Kd.R_form ho0 (by omega)
  obtain ⟨_, hlc, hC⟩ := Kd.R_reads' ho0
  have hP0 : P0_ g := ho0.1 g rfl
  have hP2 : P2_ vb := ho2.1 vb rfl
  have hne : vb ≠ g := fun he => hp0_2 g hP0 (he ▸ hP2)
  have el : l0.take i ++ [x] ++ l0.drop i = l0.take i ++ x :: l0.drop i := by simp
  rw [el]
  by_cases hroom : l0.length + 1 ≤ cap
  ·have hcm : cap ≤ 9223372036854775807 := by
    obtain ⟨_, seg, hown, hr⟩ := ho0
    rcases hown.2 with ⟨hv, _⟩ | ⟨g', cap', cur, hv, hb, hh, hle, hcm, hcs, htake⟩
    ·cases hv
    injection hv with ha _ hc
    subst hc
    unfold maxLen at hcm
    omega
   refine (ins_shift_R w w0.heap.size P0_ P2_ g l0.length cap i vb vc l0 x hi hroom hcm hne ho0 ho2).mono ?_
   rintro e w' ⟨rfl, hr, hg⟩
   refine ⟨_, rfl, Kd.R_mono hr (fun k hk => .inl (.inl hk)), hB.grown hg hB.size (fun k hk => by injection hk with hk; subst hk; exact gb), Kept.of_grown hg (Kept.refl _ _) (fun k hk => by injection hk with hk; subst hk; exact .inl (.inl hP0))⟩
  ·refine (ins_grow_R w w0.heap.size P0_ P2_ g l0.length cap i vb vc l0 x hi hlc (by omega) c3 hB.size ho0 ho2).mono ?_
   rintro e w' ⟨v, rfl, hr, hb⟩
   exact ⟨v, rfl, Kd.R_mono hr (fun k hk => .inr hk), below_step hB hb, Kept.of_below hb _⟩
end Go.Proofs.Ytcdflbbohnjegaa.G

namespace Go.Proofs.Ytcdflbbohnjegaa.G
open Go.RowKit Go.Proofs.YtcdflbbohnjegaaW.PrintWords Go.Proofs.YtcdflbbohnjegaaW.PrintLast Go.Proofs.YtcdflbbohnjegaaW.PrintMore Go.Proofs.Ytcdflbbohnjegaa.Sh
attribute [local go_sem] max2_int min2_int max_two min_two max_three min_three max_four min_four
set_option linter.unusedVariables false
set_option linter.unusedSimpArgs false
def impl_Table_with.f (k : Nat) (a0_0 : Int) (l0_1 : List (S50)) (a1_0 : Int) (a1_1 : ByteArray) : Option (Int × (List (S50))) := (impl_copyTable.f a0_0 l0_1).bind fun bt661 => ((impl_Table_place.f k a0_0 l0_1 a1_0 a1_1).bind fun bt666 => ((slices_Insert_impl_Entry_impl_Entry.f bt661.2 bt666.1 (([(⟨a1_0, a1_1⟩ : S50)] : List (S50)))).bind fun t671 => (some (bt661.1, t671))))
theorem impl_Table_with.mono : ∀ a0 a1 a2 a3 k, LeO (impl_Table_with.f k a0 a1 a2 a3) (impl_Table_with.f (k + 1) a0 a1 a2 a3) := by
 intro a0 a1 a2 a3 k
 unfold impl_Table_with.f
 repeat' first | (with_reducible first | exact impl_Table_place.mono _ _ _ _ _ | exact LeO.refl _ | exact LeO.none _ | refine LeO.ite ?_ ?_ | refine LeO.bind ?_ (fun _ => ?_)) | exact impl_Table_place.mono _ _ _ _ _ | exact LeO.none _ | refine LeO.ite ?_ ?_ | refine LeO.bind ?_ (fun _ => ?_)
set_option maxHeartbeats 8000000 in
set_option maxRecDepth 100000 in
theorem impl_Table_with.calls (k : Nat) (a0_0 : Int) (A0_1 : Option Addr) (c0_1 : Nat) (l0_1 : List (S50)) (a1_0 : Int) (a1_1 : ByteArray) (r1 : Int) (r2 : List (S50)) (w : World) (hr0_1 : Kd.C k50 w A0_1 l0_1.length l0_1) (hc0_1 : l0_1.length ≤ c0_1) (h : impl_Table_with.f k a0_0 l0_1 a1_0 a1_1 = some (r1, r2)) :
  Calls Try.prog 68 #[.agg #[.int .i64 a0_0, .slice A0_1 l0_1.length c0_1], .agg #[.int .i64 a1_0, .string a1_1]] w fun e w' => ∃ v1_ : Value, e = .returned (.agg #[.int .i64 r1, v1_]) ∧ Kd.R k50 50 w' w.heap.size (fun _ => True) v1_ r2 ∧ Below w.heap.size w w' := by
 have hu29 := Try.underlying29
 have hu50 := Try.underlying50
 have HR0_1 := Aside0.mk hr0_1
 have HC0_1 := Aside0.mk hc0_1
 clear hr0_1 hc0_1
 have HB := Aside0.mk (Below.refl w.heap.size w)
 have H : ((impl_copyTable.f a0_0 l0_1).bind fun bt661 => ((impl_Table_place.f k a0_0 l0_1 a1_0 a1_1).bind fun bt666 => ((slices_Insert_impl_Entry_impl_Entry.f bt661.2 bt666.1 (([(⟨a1_0, a1_1⟩ : S50)] : List (S50)))).bind fun t671 => (some (bt661.1, t671))))) = some (r1, r2) := h
 clear h
 replace H := BS H
 obtain ⟨⟨t661, t662⟩, A30, H⟩ := H
 have A3 := Aside0.mk A30
 clear A30
 replace H := BS H
 obtain ⟨⟨t666, t667⟩, A40, H⟩ := H
 have A4 := Aside0.mk A40
 clear A40
 obtain ⟨y668, hy668⟩ : ∃ y_ : List (S50), y_ = (([(⟨a1_0, a1_1⟩ : S50)] : List (S50))) := ⟨_, rfl⟩
 replace H : ((slices_Insert_impl_Entry_impl_Entry.f t662 t666 y668).bind fun t671 => (some (t661, t671))) = some (r1, r2) := by first | (rw [hy668]; with_reducible exact H) | (have H2_ := (Option.bind_some _ _).symm.trans H; rw [hy668]; with_reducible exact H2_) | (have H2_ := (Option.bind_some _ _).symm.trans H; with_reducible exact H2_) | with_reducible exact H | (rw [hy668]; exact H) | exact H
 have Ny668 := Aside0.mk hy668
 clear hy668
 replace H := BS H
 obtain ⟨t671, A50, H⟩ := H
 have A5 := Aside0.mk A50
 clear A50
 simp only [Option.some.injEq, Prod.mk.injEq] at H
 obtain ⟨rfl, rfl⟩ := H
 go_enter Try.func68, Try.ntmps68
 go_wp2_with (first | ((with_reducible refine gate_dst (N := 2) rfl ?_); refine box_event ?hg (N := 2) ?hd (cs := #[.int .i64 a0_0, .slice A0_1 l0_1.length c0_1]) (t := 29) ?hr ?_; (case hd => rfl); (case hg => rfl); (case hr => first | (go_simp; done) | (go_simp; rfl)); intro gb658 hg w6 hbox hb; have n0_ := Aside0.mk (below_step BL hb); have n1_ := Aside0.mk (hbox); have n2_ := Aside0.mk ((by rw [hg]; exact (below_size BL) : w.heap.size ≤ gb658)); have n3_ := Aside0.mk ((by rw [hg]; exact (below_size BL) : w.heap.size ≤ gb658)); clear HB; have HB := n0_; have BK658 := n1_; have GW658 := n2_; have GE658 := n3_; clear n0_ n1_ n2_ n3_; clear hb hbox hg) | ((with_reducible refine gate_dst (N := 3) rfl ?_); refine box_event ?hg (N := 3) ?hd (cs := #[.int .i64 a1_0, .string a1_1]) (t := 50) ?hr ?_; (case hd => rfl); (case hg => rfl); (case hr => first | (go_simp; done) | (go_simp; rfl)); intro gb659 hg w7 hbox hb; have n0_ := Aside0.mk (blk_below (BD BK658) hb); have n1_ := Aside0.mk (below_step BG hb); have n2_ := Aside0.mk (hbox); have n3_ := Aside0.mk ((by rw [hg]; exact (below_size BG) : w.heap.size ≤ gb659)); have n4_ := Aside0.mk ((by rw [hg]; exact (below_size BG) : w.heap.size ≤ gb659)); have n5_ := Aside0.mk ((by rw [hg]; exact Nat.ne_of_lt (blk_lt (BD BK658)) : gb658 ≠ gb659)); have n6_ := Aside0.mk ((by rw [hg]; exact Nat.ne_of_gt (blk_lt (BD BK658)) : gb659 ≠ gb658)); clear BK658; clear HB; have BK658 := n0_; have HB := n1_; have BK659 := n2_; have GW659 := n3_; have GE659 := n4_; have NB658_659 := n5_; have NB659_658 := n6_; clear n0_ n1_ n2_ n3_ n4_ n5_ n6_; clear hb hbox hg) | ((with_reducible refine gate_dst (N := 4) rfl ?_); refine box_event ?hg (N := 4) ?hd (cs := #[.int .i64 0, .slice none 0 0]) (t := 29) ?hr ?_; (case hd => rfl); (case hg => rfl); (case hr => first | (go_simp; done) | (go_simp; rfl)); intro gb660 hg w8 hbox hb; have n0_ := Aside0.mk (blk_below (BD BK658) hb); have n1_ := Aside0.mk (blk_below (BD BK659) hb); have n2_ := Aside0.mk (below_step BG hb); have n3_ := Aside0.mk (hbox); have n4_ := Aside0.mk ((by rw [hg]; exact (below_size BG) : w.heap.size ≤ gb660)); have n5_ := Aside0.mk ((by rw [hg]; exact (below_size BG) : w.heap.size ≤ gb660)); have n6_ := Aside0.mk ((by rw [hg]; exact Nat.ne_of_lt (blk_lt (BD BK658)) : gb658 ≠ gb660)); have n7_ := Aside0.mk ((by rw [hg]; exact Nat.ne_of_gt (blk_lt (BD BK658)) : gb660 ≠ gb658)); have n8_ := Aside0.mk ((by rw [hg]; exact Nat.ne_of_lt (blk_lt (BD BK659)) : gb659 ≠ gb660)); have n9_ := Aside0.mk ((by rw [hg]; exact Nat.ne_of_gt (blk_lt (BD BK659)) : gb660 ≠ gb659)); clear BK658; clear BK659; clear HB; have BK658 := n0_; have BK659 := n1_; have HB := n2_; have BK660 := n3_; have GW660 := n4_; have GE660 := n5_; have NB658_660 := n6_; have NB660_658 := n7_; have NB659_660 := n8_; have NB660_659 := n9_; clear n0_ n1_ n2_ n3_ n4_ n5_ n6_ n7_ n8_ n9_; clear hb hbox hg; have hnb9 := NB658_659.out; have hnc9 := NB659_658.out; have hnb10 := NB658_660.out; have hnc10 := NB660_658.out; obtain ⟨hcz11_0, hcz11_1, hfz11_0, hfz11_1⟩ := bk2 BK658.out) | ((with_reducible refine gate_callee (f := 54) rfl ?_); refine goesL_ (some 9) rfl rfl Try.func54 (by kernel_rfl) rfl #[.agg #[.int .i64 a0_0, .slice A0_1 l0_1.length c0_1]] rfl AQ ?_; (with_reducible refine (impl_copyTable.calls a0_0 _ _ l0_1 t661 t662 _ ?side1 ?side2 A3.out).mono ?_); (case side1 => exact SC HR0_1); (case side2 => exact HC0_1.out); rintro e w12 ⟨v663, rfl, ho0, hb⟩; refine ⟨_, rfl, ?_⟩; have n0_ := Aside0.mk (Kd.R_lower (Kd.R_newB ho0 (g := gb659) (o := .cells #[.int .i64 a1_0, .string a1_1] 50 (0, 0)) (by (with_reducible repeat (first | refine blk_drewN ?_ _ | refine blk_drew ?_ | refine blk_alloc ?_ _)); exact BK659.out)) (below_size BG)); have n1_ := Aside0.mk (blk_below (BD BK658) hb); have n2_ := Aside0.mk (blk_below (BD BK659) hb); have n3_ := Aside0.mk (blk_below (BD BK660) hb); have n4_ := Aside0.mk (below_step BG hb); clear BK658; clear BK659; clear BK660; clear HB; have HO664 := n0_; have BK658 := n1_; have BK659 := n2_; have BK660 := n3_; have HB := n4_; clear n0_ n1_ n2_ n3_ n4_; (try clear hb); (try clear hb2); (try clear hk); (try clear hi); (try clear ho0)) | ((with_reducible refine gate_dst (N := 5) rfl ?_); refine box_event ?hg (N := 5) ?hd (cs := #[.int .i64 0, .slice none 0 0]) (t := 29) ?hr ?_; (case hd => rfl); (case hg => rfl); (case hr => first | (go_simp; done) | (go_simp; rfl)); intro gb665 hg w13 hbox hb; have n0_ := Aside0.mk (Kd.R_below (RD HO664) hb); have n1_ := Aside0.mk (blk_below (BD BK658) hb); have n2_ := Aside0.mk (blk_below (BD BK659) hb); have n3_ := Aside0.mk (blk_below (BD BK660) hb); have n4_ := Aside0.mk (below_step BG hb); have n5_ := Aside0.mk (hbox); have n6_ := Aside0.mk ((by rw [hg]; exact (below_size BG) : w.heap.size ≤ gb665)); have n7_ := Aside0.mk ((by rw [hg]; exact (below_size BG) : w.heap.size ≤ gb665)); have n8_ := Aside0.mk ((by rw [hg]; exact Nat.ne_of_lt (blk_lt (BD BK658)) : gb658 ≠ gb665)); have n9_ := Aside0.mk ((by rw [hg]; exact Nat.ne_of_gt (blk_lt (BD BK658)) : gb665 ≠ gb658)); have n10_ := Aside0.mk ((by rw [hg]; exact Nat.ne_of_lt (blk_lt (BD BK659)) : gb659 ≠ gb665)); have n11_ := Aside0.mk ((by rw [hg]; exact Nat.ne_of_gt (blk_lt (BD BK659)) : gb665 ≠ gb659)); have n12_ := Aside0.mk ((by rw [hg]; exact Nat.ne_of_lt (blk_lt (BD BK660)) : gb660 ≠ gb665)); have n13_ := Aside0.mk ((by rw [hg]; exact Nat.ne_of_gt (blk_lt (BD BK660)) : gb665 ≠ gb660)); clear HO664; clear BK658; clear BK659; clear BK660; clear HB; have HO664 := n0_; have BK658 := n1_; have BK659 := n2_; have BK660 := n3_; have HB := n4_; have BK665 := n5_; have GW665 := n6_; have GE665 := n7_; have NB658_665 := n8_; have NB665_658 := n9_; have NB659_665 := n10_; have NB665_659 := n11_; have NB660_665 := n12_; have NB665_660 := n13_; clear n0_ n1_ n2_ n3_ n4_ n5_ n6_ n7_ n8_ n9_ n10_ n11_ n12_ n13_; clear hb hbox hg; have hnb14 := NB665_658.out; have hnc14 := NB658_665.out; have hnb15 := NB665_659.out; have hnc15 := NB659_665.out; have hnb16 := NB665_660.out; have hnc16 := NB660_665.out; obtain ⟨hcz17_0, hcz17_1, hfz17_0, hfz17_1⟩ := bk2 BK665.out; obtain ⟨Ao18, co18, eo18⟩ := Kd.R_slice HO664.out; subst eo18; obtain ⟨hcz19_0, hcz19_1, hfz19_0, hfz19_1⟩ := bk2 BK658.out; have hnb20 := NB659_660.out; have hnc20 := NB660_659.out; obtain ⟨hcz21_0, hcz21_1, hfz21_0, hfz21_1⟩ := bk2 BK659.out) | ((with_reducible refine gate_callee (f := 58) rfl ?_); refine goesL_ (some 13) rfl rfl Try.func58 (by kernel_rfl) rfl #[.agg #[.int .i64 a0_0, .slice A0_1 l0_1.length c0_1], .agg #[.int .i64 a1_0, .string a1_1]] rfl AQ ?_; (with_reducible refine (impl_Table_place.calls k a0_0 _ _ l0_1 a1_0 a1_1 t666 t667 _ ?side1 ?side2 A4.out).mono ?_); (case side1 => exact Kd.C_below HR0_1.out BG); (case side2 => exact HC0_1.out); rintro e w22 ⟨rfl, hb⟩; refine ⟨_, rfl, ?_⟩; have n0_ := Aside0.mk (Kd.R_below (by (with_reducible repeat (first | apply Kd.R_alloc | apply Kd.R_drewN | apply Kd.R_drew)); exact (FM (FR (FR (Kd.R_types HO664.out BK665.out (by decide)))))) hb); have n1_ := Aside0.mk (blk_below (g := gb658) (o := .cells #[.int .i64 a0_0, .slice A0_1 l0_1.length c0_1] 29 (0, 0)) (by (with_reducible repeat (first | refine blk_drewN ?_ _ | refine blk_drew ?_ | refine blk_alloc ?_ _)); refine blk_far ?_ NB658_665.out _; (with_reducible repeat (first | refine blk_drewN ?_ _ | refine blk_drew ?_ | refine blk_alloc ?_ _)); refine blk_far ?_ NB658_665.out _; (with_reducible repeat (first | refine blk_drewN ?_ _ | refine blk_drew ?_ | refine blk_alloc ?_ _)); exact BK658.out) hb); have n2_ := Aside0.mk (blk_below (g := gb659) (o := .cells #[.int .i64 a1_0, .string a1_1] 50 (0, 0)) (by (with_reducible repeat (first | refine blk_drewN ?_ _ | refine blk_drew ?_ | refine blk_alloc ?_ _)); refine blk_far ?_ NB659_665.out _; (with_reducible repeat (first | refine blk_drewN ?_ _ | refine blk_drew ?_ | refine blk_alloc ?_ _)); refine blk_far ?_ NB659_665.out _; (with_reducible repeat (first | refine blk_drewN ?_ _ | refine blk_drew ?_ | refine blk_alloc ?_ _)); exact BK659.out) hb); have n3_ := Aside0.mk (blk_below (g := gb660) (o := .cells #[.int .i64 0, .slice none 0 0] 29 (0, 0)) (by (with_reducible repeat (first | refine blk_drewN ?_ _ | refine blk_drew ?_ | refine blk_alloc ?_ _)); refine blk_far ?_ NB660_665.out _; (with_reducible repeat (first | refine blk_drewN ?_ _ | refine blk_drew ?_ | refine blk_alloc ?_ _)); refine blk_far ?_ NB660_665.out _; (with_reducible repeat (first | refine blk_drewN ?_ _ | refine blk_drew ?_ | refine blk_alloc ?_ _)); exact BK660.out) hb); have n4_ := Aside0.mk (blk_below (g := gb665) (o := .cells #[.int .i64 t661, .slice Ao18 t662.length co18] 29 (0, 0)) (by (with_reducible repeat (first | refine blk_drewN ?_ _ | refine blk_drew ?_ | refine blk_alloc ?_ _)); refine blk_put (cs := #[.int .i64 t661, .slice none 0 0]) ?_ 1 _ rfl; (with_reducible repeat (first | refine blk_drewN ?_ _ | refine blk_drew ?_ | refine blk_alloc ?_ _)); refine blk_put (cs := #[.int .i64 0, .slice none 0 0]) ?_ 0 _ rfl; (with_reducible repeat (first | refine blk_drewN ?_ _ | refine blk_drew ?_ | refine blk_alloc ?_ _)); exact BK665.out) hb); have n5_ := Aside0.mk (below_step BG hb); clear HO664; clear BK658; clear BK659; clear BK660; clear BK665; clear HB; have HO664 := n0_; have BK658 := n1_; have BK659 := n2_; have BK660 := n3_; have BK665 := n4_; have HB := n5_; clear n0_ n1_ n2_ n3_ n4_ n5_; (try clear hb); (try clear hb2); (try clear hk); (try clear hi); obtain ⟨hcz23_0, hcz23_1, hfz23_0, hfz23_1⟩ := bk2 BK665.out; obtain ⟨hcz24_0, hcz24_1, hfz24_0, hfz24_1⟩ := bk2 BK659.out) | ((with_reducible refine gate_dst (N := 20) rfl ?_); refine Kd.R_lit k50 _ 50 ?hg (N := 20) ?hd (xs := ([(⟨a1_0, a1_1⟩ : S50)] : List (S50))) (inner := [.int .i64 a1_0, .string a1_1]) (ok := fun _ => True) (okp := fun _ => True) ?hr ?hp (fun _ hk => hk) trivial (Below.refl _ _) (Nat.le_refl _) (by simp) ?_; (case hd => rfl); (case hg => rfl); (case hr => first | (go_simp; done) | (go_simp; rfl)); (case hp => exact (Reps.c2 (show Kd.M k50 _ _ _ (⟨a1_0, a1_1⟩ : S50) [.int .i64 a1_0, .string a1_1] from (k50_mkM _ _ _ (⟨a1_0, a1_1⟩ : S50) )) (Reps.none _ _))); intro v669 w25 ho26 hb hg_ hnew_; clear hg_ hnew_; (first | rw [← Ny668.out] at ho26 | (simp only [Int.reduceToNat] at ho26; rw [← Ny668.out] at ho26)); have n0_ := Aside0.mk (Kd.R_elder' (RD HO664) (Kd.R_base ho26) hb); have n1_ := Aside0.mk (Kd.R_lower (Kd.R_newB (Kd.R_new' ho26 (Kd.R_lt (RD HO664))) (g := gb659) (o := .cells #[.int .i64 a1_0, .string a1_1] 50 (0, 0)) (by (with_reducible repeat (first | refine blk_drewN ?_ _ | refine blk_drew ?_ | refine blk_alloc ?_ _)); exact BK659.out)) (below_size BG)); have n2_ := Aside0.mk (blk_below (BD BK658) hb); have n3_ := Aside0.mk (blk_below (BD BK659) hb); have n4_ := Aside0.mk (blk_below (BD BK660) hb); have n5_ := Aside0.mk (blk_below (BD BK665) hb); have n6_ := Aside0.mk (below_step BG hb); clear HO664; clear BK658; clear BK659; clear BK660; clear BK665; clear HB; have HO664 := n0_; have HO670 := n1_; have BK658 := n2_; have BK659 := n3_; have BK660 := n4_; have BK665 := n5_; have HB := n6_; clear n0_ n1_ n2_ n3_ n4_ n5_ n6_; clear hb ho26; obtain ⟨Ao27, co27, eo27⟩ := Kd.R_slice HO670.out; subst eo27) | ((with_reducible refine gate_callee (f := 86) rfl ?_); refine goesL_ (some 21) rfl rfl Try.func86 (by kernel_rfl) rfl #[.slice Ao18 t662.length co18, .int .i64 t666, .slice Ao27 y668.length co27] rfl AQ ?_; (with_reducible refine (slices_Insert_impl_Entry_impl_Entry.calls (fun k_ => some k_ = (.slice Ao18 t662.length co18 : Value).ownBlock) (.slice Ao18 t662.length co18) t662 t666 (fun k_ => some k_ = (.slice Ao27 y668.length co27 : Value).ownBlock) (.slice Ao27 y668.length co27) y668 t671 w _ ?side1 ?side2 ?side3 ?side4 ?side5 A5.out).mono ?_); (case side1 => repeat (first | (with_reducible first | exact HB.out | apply below_alloc | apply pw_below_drewN | apply below_drew1 | refine below_set ?_ GE658.out | refine below_set ?_ GE659.out | refine below_set ?_ GE660.out | refine below_set ?_ GE665.out) | exact HB.out)); (case side2 => exact Kd.R_tight rfl HO664.out); (case side3 => exact fun k_ e_ => (HO664.out.1 k_ e_.symm).2); (case side4 => exact Kd.R_tight rfl HO670.out); (case side5 => exact fun k_ e_ => (HO670.out.1 k_ e_.symm).1.2); rintro e w28 ⟨v672, rfl, ho0, hb, hkp⟩; refine ⟨_, rfl, ?_⟩; have n0_ := Aside0.mk (blk_kept (by (with_reducible repeat (first | refine blk_drewN ?_ _ | refine blk_drew ?_ | refine blk_alloc ?_ _)); exact BK658.out) hkp (fun hs_ => Or.elim hs_ (fun e_ => (fun e_ => (Kd.R_ne HO664.out BK658.out (by decide)) e_) e_) (fun e_ => (fun e_ => (Kd.R_ne HO670.out BK658.out (by decide)) e_) e_))); have n1_ := Aside0.mk (blk_kept (by (with_reducible repeat (first | refine blk_drewN ?_ _ | refine blk_drew ?_ | refine blk_alloc ?_ _)); exact BK659.out) hkp (fun hs_ => Or.elim hs_ (fun e_ => (fun e_ => (Kd.R_away HO664.out (fun _ hk => hk.1.2)) e_) e_) (fun e_ => (fun e_ => (Kd.R_away HO670.out (fun _ hk => hk.2)) e_) e_))); have n2_ := Aside0.mk (blk_kept (by (with_reducible repeat (first | refine blk_drewN ?_ _ | refine blk_drew ?_ | refine blk_alloc ?_ _)); exact BK660.out) hkp (fun hs_ => Or.elim hs_ (fun e_ => (fun e_ => (Kd.R_ne HO664.out BK660.out (by decide)) e_) e_) (fun e_ => (fun e_ => (Kd.R_ne HO670.out BK660.out (by decide)) e_) e_))); have n3_ := Aside0.mk (blk_kept (by (with_reducible repeat (first | refine blk_drewN ?_ _ | refine blk_drew ?_ | refine blk_alloc ?_ _)); exact BK665.out) hkp (fun hs_ => Or.elim hs_ (fun e_ => (fun e_ => (Kd.R_ne HO664.out BK665.out (by decide)) e_) e_) (fun e_ => (fun e_ => (Kd.R_ne HO670.out BK665.out (by decide)) e_) e_))); have n4_ := Aside0.mk (Kd.R_mono (ok' := fun k_ => k_ ≠ gb659) ho0 (fun k_ hk_ => Or.elim hk_ (fun hs_ => Or.elim hs_ (fun hs_ => fun e_ => (Kd.R_away HO664.out (fun _ hk => hk.1.2)) (by rw [← e_]; exact hs_)) (fun hs_ => fun e_ => (Kd.R_away HO670.out (fun _ hk => hk.2)) (by rw [← e_]; exact hs_))) (fun hn_ => (Kd.freshB (g := gb659) (o := .cells #[.int .i64 a1_0, .string a1_1] 50 (0, 0)) (by (with_reducible repeat (first | refine blk_drewN ?_ _ | refine blk_drew ?_ | refine blk_alloc ?_ _)); exact BK659.out) k_ hn_)))); have n5_ := Aside0.mk (hb); clear BK658; clear BK659; clear BK660; clear BK665; clear HB; clear HO664; clear HO670; have BK658 := n0_; have BK659 := n1_; have BK660 := n2_; have BK665 := n3_; have HO673 := n4_; have HB := n5_; clear n0_ n1_ n2_ n3_ n4_ n5_; (try clear hb); (try clear hkp); (try clear ho0); obtain ⟨Ao29, co29, eo29⟩ := Kd.R_slice HO673.out; subst eo29; obtain ⟨hcz30_0, hcz30_1, hfz30_0, hfz30_1⟩ := bk2 BK665.out; obtain ⟨hcz31_0, hcz31_1, hfz31_0, hfz31_1⟩ := bk2 BK660.out))
 refine bodyPost_ret (results_cell_row rfl _ _ gb660 29 #[.int .i64 t661, .slice Ao29 t671.length co29] (0, 0) _ rfl (by (with_reducible repeat (first | refine blk_drewN ?_ _ | refine blk_drew ?_ | refine blk_alloc ?_ _)); refine blk_put (cs := #[.int .i64 t661, .slice none 0 0]) ?_ 1 _ rfl; (with_reducible repeat (first | refine blk_drewN ?_ _ | refine blk_drew ?_ | refine blk_alloc ?_ _)); refine blk_put (cs := #[.int .i64 0, .slice none 0 0]) ?_ 0 _ rfl; (with_reducible repeat (first | refine blk_drewN ?_ _ | refine blk_drew ?_ | refine blk_alloc ?_ _)); refine blk_far ?_ NB660_665.out _; (with_reducible repeat (first | refine blk_drewN ?_ _ | refine blk_drew ?_ | refine blk_alloc ?_ _)); exact BK660.out) Try.underlying29 rfl (by kernel_rfl)) rfl ?_
 exact ⟨_, by first | rfl | (simp [errW_none, errW_some] <;> rfl) | (simp [*, errW_none, errW_some] <;> rfl), by (with_reducible repeat (first | apply Kd.R_alloc | apply Kd.R_drewN | apply Kd.R_drew)); exact Kd.R_mono (FR (FR (Kd.R_far (p := ⟨gb665, 1, none⟩) (Kd.R_types (Kd.R_types HO673.out BK665.out (by decide)) BK660.out (by decide)) (fun _ hk => hk.1.2) (.slice Ao29 t671.length co29)))) (fun _ hk => trivial), BG⟩
def impl_Table_opened.f : Nat → Int → List (S50) → Int → Option (Int × (List (S50)))
 | 0, _, _, _ => none
 | k + 1, a0_0, l0_1, a1 => (impl_Table_isOpen.f k a0_0 l0_1 a1).bind fun t676 => (if t676 = true then ((impl_copyTable.f a0_0 l0_1).bind fun bt677 => (some (bt677.1, bt677.2))) else ((impl_Parent.f k a1).bind fun t681 => ((impl_Table_opened.f k a0_0 l0_1 t681).bind fun bt682 => ((impl_DummyKey.f a1).bind fun t686 => ((impl_Table_with.f k bt682.1 bt682.2 t686 (⟨#[]⟩ : ByteArray)).bind fun bt687 => (some (bt687.1, bt687.2)))))))
theorem impl_Table_opened.mono_l : ∀ k, (∀ y0 y1 y2, LeO (impl_Table_opened.f k y0 y1 y2) (impl_Table_opened.f (k + 1) y0 y1 y2))
 | 0 => fun _ _ _ r h => by simp [impl_Table_opened.f] at h
 | k + 1 => by
  have ih0 := impl_Table_opened.mono_l k
  ·intro y0 y1 y2
   unfold impl_Table_opened.f
   repeat' first | (with_reducible first | exact ih0 _ _ _ | exact impl_Parent.mono _ _ | exact impl_Table_isOpen.mono _ _ _ _ | exact impl_Table_with.mono _ _ _ _ _ | exact LeO.refl _ | exact LeO.none _ | refine LeO.ite ?_ ?_ | refine LeO.bind ?_ (fun _ => ?_)) | exact ih0 _ _ _ | exact impl_Parent.mono _ _ | exact impl_Table_isOpen.mono _ _ _ _ | exact impl_Table_with.mono _ _ _ _ _ | exact LeO.none _ | refine LeO.ite ?_ ?_ | refine LeO.bind ?_ (fun _ => ?_)
theorem impl_Table_opened.mono : ∀ a0 a1 a2 k, LeO (impl_Table_opened.f k a0 a1 a2) (impl_Table_opened.f (k + 1) a0 a1 a2) := by
 intro a0 a1 a2 k
 have ih0 := impl_Table_opened.mono_l k
 exact ih0 a0 a1 a2
def impl_Table_opened.T3 : Bool × List (List Nat × List Nat) := (true, [([], []), ([], []), ([1], [1]), ([0, 2, 2], [0, 2]), ([], []), ([4, 3], [4]), ([5], [5]), ([3, 6, 5], [3, 6]), ([7, 7, 0, 1, 2, 3, 4, 5, 6, 7], [7])])
def impl_Table_opened.B3 : List Nat := [0, 0, 2, 7, 0, 31, 63, 127, 255]
theorem impl_Table_opened.tab3 : rtab .any (opsOf Try.f62 3) = impl_Table_opened.T3 := by kernel_rfl
theorem impl_Table_opened.bits3 : waitsOk impl_Table_opened.T3.2 impl_Table_opened.B3 = true := by kernel_rfl
set_option maxHeartbeats 8000000 in
set_option maxRecDepth 100000 in
theorem impl_Table_opened.calls (k : Nat) : ∀ (a0_0 : Int) (A0_1 : Option Addr) (c0_1 : Nat) (l0_1 : List (S50)) (a1 : Int) (r1 : Int) (r2 : List (S50)) (w : World) (hr0_1 : Kd.C k50 w A0_1 l0_1.length l0_1) (hc0_1 : l0_1.length ≤ c0_1) (h : impl_Table_opened.f k a0_0 l0_1 a1 = some (r1, r2)),
  Calls Try.prog 62 #[.agg #[.int .i64 a0_0, .slice A0_1 l0_1.length c0_1], .int .i64 a1] w fun e w' => ∃ v1_ : Value, e = .returned (.agg #[.int .i64 r1, v1_]) ∧ Kd.R k50 50 w' w.heap.size (fun _ => True) v1_ r2 ∧ Below w.heap.size w w' := by
 induction k using Nat.strongRecOn with
 | _ k ih =>
 intro a0_0 A0_1 c0_1 l0_1 a1 r1 r2 w hr0_1 hc0_1 h
 cases k with
 | zero => exact absurd h (by simp [impl_Table_opened.f])
 | succ k =>
 simp only [impl_Table_opened.f] at h
 have hu29 := Try.underlying29
 have hu50 := Try.underlying50
 have HR0_1 := Aside0.mk hr0_1
 have HC0_1 := Aside0.mk hc0_1
 clear hr0_1 hc0_1
 have HB := Aside0.mk (Below.refl w.heap.size w)
 have H : ((impl_Table_isOpen.f k a0_0 l0_1 a1).bind fun t676 => (if t676 = true then ((impl_copyTable.f a0_0 l0_1).bind fun bt677 => (some (bt677.1, bt677.2))) else ((impl_Parent.f k a1).bind fun t681 => ((impl_Table_opened.f k a0_0 l0_1 t681).bind fun bt682 => ((impl_DummyKey.f a1).bind fun t686 => ((impl_Table_with.f k bt682.1 bt682.2 t686 (⟨#[]⟩ : ByteArray)).bind fun bt687 => (some (bt687.1, bt687.2)))))))) = some (r1, r2) := h
 clear h
 replace H := BS H
 obtain ⟨t676, A30, H⟩ := H
 have A3 := Aside0.mk A30
 clear A30
 by_cases c4 : t676 = true
 ·subst c4
  replace H := IP H
  replace H := BS H
  obtain ⟨⟨t677, t678⟩, A50, H⟩ := H
  have A5 := Aside0.mk A50
  clear A50
  simp only [Option.some.injEq, Prod.mk.injEq] at H
  obtain ⟨rfl, rfl⟩ := H
  go_enter Try.func62, Try.ntmps62
  go_wp2_with (first | ((with_reducible refine gate_dst (N := 2) rfl ?_); refine box_event ?hg (N := 2) ?hd (cs := #[.int .i64 a0_0, .slice A0_1 l0_1.length c0_1]) (t := 29) ?hr ?_; (case hd => rfl); (case hg => rfl); (case hr => first | (go_simp; done) | (go_simp; rfl)); intro gb674 hg w6 hbox hb; have n0_ := Aside0.mk (below_step BL hb); have n1_ := Aside0.mk (hbox); have n2_ := Aside0.mk ((by rw [hg]; exact (below_size BL) : w.heap.size ≤ gb674)); have n3_ := Aside0.mk ((by rw [hg]; exact (below_size BL) : w.heap.size ≤ gb674)); clear HB; have HB := n0_; have BK674 := n1_; have GW674 := n2_; have GE674 := n3_; clear n0_ n1_ n2_ n3_; clear hb hbox hg) | ((with_reducible refine gate_dst (N := 4) rfl ?_); refine box_event ?hg (N := 4) ?hd (cs := #[.int .i64 0, .slice none 0 0]) (t := 29) ?hr ?_; (case hd => rfl); (case hg => rfl); (case hr => first | (go_simp; done) | (go_simp; rfl)); intro gb675 hg w7 hbox hb; have n0_ := Aside0.mk (blk_below (BD BK674) hb); have n1_ := Aside0.mk (below_step BG hb); have n2_ := Aside0.mk (hbox); have n3_ := Aside0.mk ((by rw [hg]; exact (below_size BG) : w.heap.size ≤ gb675)); have n4_ := Aside0.mk ((by rw [hg]; exact (below_size BG) : w.heap.size ≤ gb675)); have n5_ := Aside0.mk ((by rw [hg]; exact Nat.ne_of_lt (blk_lt (BD BK674)) : gb674 ≠ gb675)); have n6_ := Aside0.mk ((by rw [hg]; exact Nat.ne_of_gt (blk_lt (BD BK674)) : gb675 ≠ gb674)); clear BK674; clear HB; have BK674 := n0_; have HB := n1_; have BK675 := n2_; have GW675 := n3_; have GE675 := n4_; have NB674_675 := n5_; have NB675_674 := n6_; clear n0_ n1_ n2_ n3_ n4_ n5_ n6_; clear hb hbox hg; have hnb8 := NB674_675.out; have hnc8 := NB675_674.out; obtain ⟨hcz9_0, hcz9_1, hfz9_0, hfz9_1⟩ := bk2 BK674.out) | ((with_reducible refine gate_callee (f := 49) rfl ?_); refine goesL_ (some 7) rfl rfl Try.func49 (by kernel_rfl) rfl #[.agg #[.int .i64 a0_0, .slice A0_1 l0_1.length c0_1], .int .i64 a1] rfl AQ ?_; (with_reducible refine (impl_Table_isOpen.calls k a0_0 _ _ l0_1 a1 true _ ?side1 ?side2 A3.out).mono ?_); (case side1 => exact SC HR0_1); (case side2 => exact HC0_1.out); rintro e w10 ⟨rfl, hb⟩; refine ⟨_, rfl, ?_⟩; have n0_ := Aside0.mk (blk_below (BD BK674) hb); have n1_ := Aside0.mk (blk_below (BD BK675) hb); have n2_ := Aside0.mk (below_step BG hb); clear BK674; clear BK675; clear HB; have BK674 := n0_; have BK675 := n1_; have HB := n2_; clear n0_ n1_ n2_; (try clear hb); (try clear hb2); (try clear hk); (try clear hi); obtain ⟨hcz11_0, hcz11_1, hfz11_0, hfz11_1⟩ := bk2 BK674.out) | ((with_reducible refine gate_callee (f := 54) rfl ?_); refine goesL_ (some 9) rfl rfl Try.func54 (by kernel_rfl) rfl #[.agg #[.int .i64 a0_0, .slice A0_1 l0_1.length c0_1]] rfl AQ ?_; (with_reducible refine (impl_copyTable.calls a0_0 _ _ l0_1 t677 t678 _ ?side1 ?side2 A5.out).mono ?_); (case side1 => exact SC HR0_1); (case side2 => exact HC0_1.out); rintro e w12 ⟨v679, rfl, ho0, hb⟩; refine ⟨_, rfl, ?_⟩; have n0_ := Aside0.mk (Kd.R_lower ho0 (below_size BG)); have n1_ := Aside0.mk (blk_below (BD BK674) hb); have n2_ := Aside0.mk (blk_below (BD BK675) hb); have n3_ := Aside0.mk (below_step BG hb); clear BK674; clear BK675; clear HB; have HO680 := n0_; have BK674 := n1_; have BK675 := n2_; have HB := n3_; clear n0_ n1_ n2_ n3_; (try clear hb); (try clear hb2); (try clear hk); (try clear hi); (try clear ho0); obtain ⟨hcz13_0, hcz13_1, hfz13_0, hfz13_1⟩ := bk2 BK675.out; obtain ⟨Ao14, co14, eo14⟩ := Kd.R_slice HO680.out; subst eo14))
  refine bodyPost_ret (results_cell_row rfl _ _ gb675 29 #[.int .i64 t677, .slice Ao14 t678.length co14] (0, 0) _ rfl (by (with_reducible repeat (first | refine blk_drewN ?_ _ | refine blk_drew ?_ | refine blk_alloc ?_ _)); refine blk_put (cs := #[.int .i64 t677, .slice none 0 0]) ?_ 1 _ rfl; (with_reducible repeat (first | refine blk_drewN ?_ _ | refine blk_drew ?_ | refine blk_alloc ?_ _)); refine blk_put (cs := #[.int .i64 0, .slice none 0 0]) ?_ 0 _ rfl; (with_reducible repeat (first | refine blk_drewN ?_ _ | refine blk_drew ?_ | refine blk_alloc ?_ _)); exact BK675.out) Try.underlying29 rfl (by kernel_rfl)) rfl ?_
  exact ⟨_, by first | rfl | (simp [errW_none, errW_some] <;> rfl) | (simp [*, errW_none, errW_some] <;> rfl), by (with_reducible repeat (first | apply Kd.R_alloc | apply Kd.R_drewN | apply Kd.R_drew)); exact Kd.R_mono (FR (FR (Kd.R_types HO680.out BK675.out (by decide)))) (fun _ hk => trivial), BG⟩
 ·replace c4 := Bool.eq_false_iff.mpr c4
  subst c4
  replace H := IN H
  replace H := BS H
  obtain ⟨t681, A150, H⟩ := H
  have A15 := Aside0.mk A150
  clear A150
  replace H := BS H
  obtain ⟨⟨t682, t683⟩, A160, H⟩ := H
  have A16 := Aside0.mk A160
  clear A160
  replace H := BS H
  obtain ⟨t686, A170, H⟩ := H
  have A17 := Aside0.mk A170
  clear A170
  replace H := BS H
  obtain ⟨⟨t687, t688⟩, A180, H⟩ := H
  have A18 := Aside0.mk A180
  clear A180
  simp only [Option.some.injEq, Prod.mk.injEq] at H
  obtain ⟨rfl, rfl⟩ := H
  go_enter Try.func62, Try.ntmps62
  try go_wp2_with (first | ((with_reducible refine gate_dst (N := 2) rfl ?_); refine box_event ?hg (N := 2) ?hd (cs := #[.int .i64 a0_0, .slice A0_1 l0_1.length c0_1]) (t := 29) ?hr ?_; (case hd => rfl); (case hg => rfl); (case hr => first | (go_simp; done) | (go_simp; rfl)); intro gb674 hg w19 hbox hb; have n0_ := Aside0.mk (below_step BL hb); have n1_ := Aside0.mk (hbox); have n2_ := Aside0.mk ((by rw [hg]; exact (below_size BL) : w.heap.size ≤ gb674)); have n3_ := Aside0.mk ((by rw [hg]; exact (below_size BL) : w.heap.size ≤ gb674)); clear HB; have HB := n0_; have BK674 := n1_; have GW674 := n2_; have GE674 := n3_; clear n0_ n1_ n2_ n3_; clear hb hbox hg) | ((with_reducible refine gate_dst (N := 4) rfl ?_); refine box_event ?hg (N := 4) ?hd (cs := #[.int .i64 0, .slice none 0 0]) (t := 29) ?hr ?_; (case hd => rfl); (case hg => rfl); (case hr => first | (go_simp; done) | (go_simp; rfl)); intro gb675 hg w20 hbox hb; have n0_ := Aside0.mk (blk_below (BD BK674) hb); have n1_ := Aside0.mk (below_step BG hb); have n2_ := Aside0.mk (hbox); have n3_ := Aside0.mk ((by rw [hg]; exact (below_size BG) : w.heap.size ≤ gb675)); have n4_ := Aside0.mk ((by rw [hg]; exact (below_size BG) : w.heap.size ≤ gb675)); have n5_ := Aside0.mk ((by rw [hg]; exact Nat.ne_of_lt (blk_lt (BD BK674)) : gb674 ≠ gb675)); have n6_ := Aside0.mk ((by rw [hg]; exact Nat.ne_of_gt (blk_lt (BD BK674)) : gb675 ≠ gb674)); clear BK674; clear HB; have BK674 := n0_; have HB := n1_; have BK675 := n2_; have GW675 := n3_; have GE675 := n4_; have NB674_675 := n5_; have NB675_674 := n6_; clear n0_ n1_ n2_ n3_ n4_ n5_ n6_; clear hb hbox hg; have hnb21 := NB674_675.out; have hnc21 := NB675_674.out; obtain ⟨hcz22_0, hcz22_1, hfz22_0, hfz22_1⟩ := bk2 BK674.out) | ((with_reducible refine gate_callee (f := 49) rfl ?_); refine goesL_ (some 7) rfl rfl Try.func49 (by kernel_rfl) rfl #[.agg #[.int .i64 a0_0, .slice A0_1 l0_1.length c0_1], .int .i64 a1] rfl AQ ?_; (with_reducible refine (impl_Table_isOpen.calls k a0_0 _ _ l0_1 a1 false _ ?side1 ?side2 A3.out).mono ?_); (case side1 => exact SC HR0_1); (case side2 => exact HC0_1.out); rintro e w23 ⟨rfl, hb⟩; refine ⟨_, rfl, ?_⟩; have n0_ := Aside0.mk (blk_below (BD BK674) hb); have n1_ := Aside0.mk (blk_below (BD BK675) hb); have n2_ := Aside0.mk (below_step BG hb); clear BK674; clear BK675; clear HB; have BK674 := n0_; have BK675 := n1_; have HB := n2_; clear n0_ n1_ n2_; (try clear hb); (try clear hb2); (try clear hk); (try clear hi)))
  have n0_ := Aside0.mk (blk_drew BK674.out)
  have n1_ := Aside0.mk (blk_drew BK675.out)
  have n2_ := Aside0.mk (below_drew1 HB.out)
  clear BK674
  clear BK675
  clear HB
  have BK674 := n0_
  have BK675 := n1_
  have HB := n2_
  clear n0_ n1_ n2_
  refine start_ (n := 9) (S := fun w' => w'.cell? ⟨gb674, 0, none⟩ = some (.int .i64 a0_0) ∧ w'.cell? ⟨gb674, 1, none⟩ = some (.slice A0_1 l0_1.length c0_1)) (ds := []) #[false, false, false, false, false, false, false, false, false] (by kernel_rfl) rfl rfl ⟨(blk_cell BK674.out 0).trans rfl, (blk_cell BK674.out 1).trans rfl⟩ (fun hHeld => ?_); refine with_tabW impl_Table_opened.tab3 impl_Table_opened.bits3 (fun HT_ HW_ => ?_)
  generalize w23.drew = w24 at BK674 BK675 HB hHeld ⊢
  refine PU (i := 1) (N := some 11) #[false, true, false, false, false, false, false, false, false] rfl rfl HT_ ?_
  refine PU (i := 4) (N := some 14) #[false, true, false, false, true, false, false, false, false] rfl rfl HT_ ?_
  refine PT (i := 0) (N := some 10) #[true, true, false, false, true, false, false, false, false] rfl rfl HT_ HW_ hHeld ?_
  refine one_ (i := 2) (N := some 12) #[true, true, true, false, true, false, false, false, false] rfl rfl (one_of HT_.out (by kernel_rfl)) (by decide) (fun K hK => ?_)
  refine goes_ Try.func50 (by kernel_rfl) rfl #[.int .i64 a1] (by rfl) rfl rfl AQ ?_
  with_reducible refine (impl_Parent.calls k a1 t681 _ A15.out).mono ?_
  rintro e w' ⟨rfl, ⟨nd, rfl⟩⟩
  refine ⟨_, rfl, ?_⟩
  refine hK.out _ _ ⟨(blk_cell BK674.out 0).trans rfl, (blk_cell BK674.out 1).trans rfl⟩ (fun hHeld => ?_)
  clear hK K
  refine NM (some 12) ?_
  refine one_ (i := 3) (N := some 13) (tf 5 4) rfl rfl (one_of HT_.out (by kernel_rfl)) (by decide) (fun K hK => ?_)
  refine goes_ Try.func62 (by kernel_rfl) rfl #[.agg #[.int .i64 a0_0, .slice A0_1 l0_1.length c0_1], .int .i64 t681] (by rfl) rfl rfl AQ ?_
  with_reducible refine (ih k (by omega) a0_0 _ _ l0_1 t681 t682 t683 _ ?side1 ?side2 A16.out).mono ?_
  (case side1 => repeat (first | exact (Kd.C_below HR0_1.out BG) | (with_reducible refine Kd.C_alloc ?_ _) | (with_reducible refine Kd.C_drewN ?_ _) | (with_reducible refine Kd.C_drew ?_)))
  (case side2 => exact HC0_1.out)
  rintro e w25 ⟨v684, rfl, ho0, hb⟩
  refine ⟨_, rfl, ?_⟩
  have n0_ := Aside0.mk (Kd.R_lower ho0 (below_size BG))
  have n1_ := Aside0.mk (blk_below (BD BK674) hb)
  have n2_ := Aside0.mk (blk_below (BD BK675) hb)
  have n3_ := Aside0.mk (below_step BG hb)
  clear BK674
  clear BK675
  clear HB
  have HO685 := n0_
  have BK674 := n1_
  have BK675 := n2_
  have HB := n3_
  clear n0_ n1_ n2_ n3_
  (try clear hb)
  (try clear hb2)
  (try clear hk)
  (try clear hi)
  (try clear ho0)
  refine hK.out _ _ ⟨(blk_cell BK674.out 0).trans rfl, (blk_cell BK674.out 1).trans rfl⟩ (fun hHeld => ?_)
  clear hK K
  refine NM (some 13) ?_
  refine one_ (i := 5) (N := some 15) (tf 6 3) rfl rfl (one_of HT_.out (by kernel_rfl)) (by decide) (fun K hK => ?_)
  refine goes_ Try.func59 (by kernel_rfl) rfl #[.int .i64 a1] (by rfl) rfl rfl AQ ?_
  with_reducible refine (impl_DummyKey.calls a1 t686 _ A17.out).mono ?_
  rintro e w' ⟨rfl, ⟨nd, rfl⟩⟩
  refine ⟨_, rfl, ?_⟩
  obtain ⟨Ao26, co26, eo26⟩ := Kd.R_slice HO685.out
  (first | subst eo26 | (injection eo26 with f1_ f2_ f3_; have f4_ := f1_.symm; have f5_ := f3_.symm; clear f1_ f2_ f3_; subst f4_; subst f5_))
  refine hK.out _ _ ⟨(blk_cell BK674.out 0).trans rfl, (blk_cell BK674.out 1).trans rfl⟩ (fun hHeld => ?_)
  clear hK K
  refine NM (some 15) ?_
  refine PU (i := 6) (N := some 16) (tf 7 2) rfl rfl HT_ ?_
  refine one_ (i := 7) (N := some 17) (tf 8 1) rfl rfl (one_of HT_.out (by kernel_rfl)) (by decide) (fun K hK => ?_)
  refine goes_ Try.func68 (by kernel_rfl) rfl #[.agg #[.int .i64 t682, .slice Ao26 t683.length co26], .agg #[.int .i64 t686, .string (⟨#[]⟩ : ByteArray)]] (by rfl) rfl rfl AQ ?_
  with_reducible refine (impl_Table_with.calls k t682 _ _ t683 t686 (⟨#[]⟩ : ByteArray) t687 t688 _ ?side1 ?side2 A18.out).mono ?_
  (case side1 => exact SR HO685)
  (case side2 => exact (Kd.R_reads' HO685.out).2.1)
  rintro e w27 ⟨v689, rfl, ho0, hb⟩
  refine ⟨_, rfl, ?_⟩
  have n0_ := Aside0.mk (Kd.R_elder' (RD HO685) (Kd.R_base ho0) hb)
  have n1_ := Aside0.mk (Kd.R_lower (Kd.R_new' ho0 (Kd.R_lt (RD HO685))) (below_size BG))
  have n2_ := Aside0.mk (blk_below (BD BK674) hb)
  have n3_ := Aside0.mk (blk_below (BD BK675) hb)
  have n4_ := Aside0.mk (below_step BG hb)
  clear HO685
  clear BK674
  clear BK675
  clear HB
  have HO685 := n0_
  have HO690 := n1_
  have BK674 := n2_
  have BK675 := n3_
  have HB := n4_
  clear n0_ n1_ n2_ n3_ n4_
  (try clear hb)
  (try clear hb2)
  (try clear hk)
  (try clear hi)
  (try clear ho0)
  obtain ⟨Ao29, co29, eo29⟩ := Kd.R_slice HO690.out
  (first | subst eo29 | (injection eo29 with f1_ f2_ f3_; have f4_ := f1_.symm; have f5_ := f3_.symm; clear f1_ f2_ f3_; subst f4_; subst f5_))
  refine hK.out _ _ ⟨(blk_cell BK674.out 0).trans rfl, (blk_cell BK674.out 1).trans rfl⟩ (fun hHeld => ?_)
  clear hK K
  refine NM (some 17) ?_
  refine one_ (i := 8) (N := none) (tf 9 0) rfl rfl (one_of HT_.out (by kernel_rfl)) (by decide) (fun K hK => ?_)
  have hs28 : w27.cell? ⟨gb675, 0, none⟩ = some (.int .i64 0) := (blk_cell BK675.out 0).trans rfl
  have hfs28 := blk_frozen BK675.out 0
  have hns28_0 := NB674_675.out
  have hms28_0 := NB675_674.out
  have hs30 : w27.cell? ⟨gb675, 1, none⟩ = some (.slice none 0 0) := (blk_cell BK675.out 1).trans rfl
  have hfs30 := blk_frozen BK675.out 1
  have hns30_0 := NB674_675.out
  have hms30_0 := NB675_674.out
  refine skip_ (w1 := ?_) (by rfl) rfl ?_ ?_
  rotate_left
  ·go_simp
   rfl
  refine hK.out _ _ ⟨((cell_far (p := ⟨gb675, _, none⟩) NB674_675.out _).trans (((cell_far (p := ⟨gb675, _, none⟩) NB674_675.out _).trans (hHeld.1)))), ((cell_far (p := ⟨gb675, _, none⟩) NB674_675.out _).trans (((cell_far (p := ⟨gb675, _, none⟩) NB674_675.out _).trans (hHeld.2))))⟩ (fun hHeld => ?_)
  clear hK K
  refine done_ (done_of HT_.out (by kernel_rfl)) ?_
  try go_wp2
  refine bodyPost_ret (results_cell_row rfl _ _ gb675 29 #[.int .i64 t687, .slice Ao29 t688.length co29] (0, 0) _ rfl (by (with_reducible repeat (first | refine blk_drewN ?_ _ | refine blk_drew ?_ | refine blk_alloc ?_ _)); refine blk_put (cs := #[.int .i64 t687, .slice none 0 0]) ?_ 1 _ rfl; (with_reducible repeat (first | refine blk_drewN ?_ _ | refine blk_drew ?_ | refine blk_alloc ?_ _)); refine blk_put (cs := #[.int .i64 0, .slice none 0 0]) ?_ 0 _ rfl; (with_reducible repeat (first | refine blk_drewN ?_ _ | refine blk_drew ?_ | refine blk_alloc ?_ _)); exact BK675.out) Try.underlying29 rfl (by kernel_rfl)) rfl ?_
  exact ⟨_, by first | rfl | (simp [errW_none, errW_some] <;> rfl) | (simp [*, errW_none, errW_some] <;> rfl), by (with_reducible repeat (first | apply Kd.R_alloc | apply Kd.R_drewN | apply Kd.R_drew)); exact Kd.R_mono (FR (FR (Kd.R_types HO690.out BK675.out (by decide)))) (fun _ hk => trivial), BG⟩
def impl_Bucket.f (a0 : Int) (a1 : Int) : Option (Int) := (impl_isNum.f a0).bind fun t772 => (if t772 = true then ((impl_within.f a1 1 4294967295).bind fun t773 => (if t773 = true then (if a1 = 0 then (none) else (some (Int.tmod a0 a1))) else (some 0))) else (some 0))
set_option maxHeartbeats 8000000 in
set_option maxRecDepth 100000 in
theorem impl_Bucket.calls (a0 : Int) (a1 : Int) (r : Int) (w : World) (h : impl_Bucket.f a0 a1 = some r) :
  Calls Try.prog 66 #[.int .i64 a0, .int .i64 a1] w fun e w' => e = .returned (.int .i64 r) ∧ Drawn0 w w' := by
 have H : ((impl_isNum.f a0).bind fun t772 => (if t772 = true then ((impl_within.f a1 1 4294967295).bind fun t773 => (if t773 = true then (if a1 = 0 then (none) else (some (Int.tmod a0 a1))) else (some 0))) else (some 0))) = some r := h
 clear h
 replace H := BS H
 obtain ⟨t772, A30, H⟩ := H
 have A3 := Aside0.mk A30
 clear A30
 by_cases c4 : t772 = true
 ·subst c4
  replace H := IP H
  replace H := BS H
  obtain ⟨t773, A50, H⟩ := H
  have A5 := Aside0.mk A50
  clear A50
  by_cases c6 : t773 = true
  ·subst c6
   replace H := IP H
   by_cases c7 : a1 = 0
   ·rw [if_pos c7] at H
    exact absurd H (by simp)
   ·rw [if_neg c7] at H
    have c7b0 : (a1 == 0) = false := beq_eq_false_iff_ne.mpr c7
    have c7b1 : (a1 != 0) = true := bne_iff_ne.mpr c7
    obtain rfl := Option.some.inj H
    go_enter Try.func66, Try.ntmps66
    go_wp2_with (first | ((with_reducible refine gate_callee (f := 85) rfl ?_); refine goesL_ (some 6) rfl rfl Try.func85 (by kernel_rfl) rfl #[.int .i64 a0] rfl AQ ?_; (with_reducible refine (impl_isNum.calls a0 true _ A3.out).mono ?_); rintro e w' ⟨rfl, ⟨nd, rfl⟩⟩; refine ⟨_, rfl, ?_⟩) | (go_at_call 44; (with_reducible refine (impl_within.calls a1 1 4294967295 true _ A5.out).mono ?_); rintro e w' ⟨rfl, ⟨nd, rfl⟩⟩))
    go_ret
    exact ⟨by first | rfl | (simp; done) | (simp [*]; done), by repeat (first | exact Drawn0.refl _ | apply Drawn0.step)⟩
  ·replace c6 := Bool.eq_false_iff.mpr c6
   subst c6
   replace H := IN H
   obtain rfl := Option.some.inj H
   go_enter Try.func66, Try.ntmps66
   go_wp2_with (first | ((with_reducible refine gate_callee (f := 85) rfl ?_); refine goesL_ (some 6) rfl rfl Try.func85 (by kernel_rfl) rfl #[.int .i64 a0] rfl AQ ?_; (with_reducible refine (impl_isNum.calls a0 true _ A3.out).mono ?_); rintro e w' ⟨rfl, ⟨nd, rfl⟩⟩; refine ⟨_, rfl, ?_⟩) | (go_at_call 44; (with_reducible refine (impl_within.calls a1 1 4294967295 false _ A5.out).mono ?_); rintro e w' ⟨rfl, ⟨nd, rfl⟩⟩))
   go_ret
   exact ⟨by first | rfl | (simp; done) | (simp [*]; done), by repeat (first | exact Drawn0.refl _ | apply Drawn0.step)⟩
 ·replace c4 := Bool.eq_false_iff.mpr c4
  subst c4
  replace H := IN H
  obtain rfl := Option.some.inj H
  go_enter Try.func66, Try.ntmps66
  go_wp2_with (first | ((with_reducible refine gate_callee (f := 85) rfl ?_); refine goesL_ (some 6) rfl rfl Try.func85 (by kernel_rfl) rfl #[.int .i64 a0] rfl AQ ?_; (with_reducible refine (impl_isNum.calls a0 false _ A3.out).mono ?_); rintro e w' ⟨rfl, ⟨nd, rfl⟩⟩; refine ⟨_, rfl, ?_⟩))
  go_ret
  exact ⟨by first | rfl | (simp; done) | (simp [*]; done), by repeat (first | exact Drawn0.refl _ | apply Drawn0.step)⟩
mutual
def impl_Add.j0 : Nat → ByteArray → Bool → Int → List (S50) → Option (Int × (List (S50)) × Bool)
 | 0, _, _, _, _ => none
 | k + 1, x1, x15, x775000, x775001 => if x15 = true then (some (0, ([] : List (S50)), false)) else ((impl_Hash.f k x1).bind fun t778 => ((impl_Bucket.f t778 x775000).bind fun t779 => ((impl_Table_opened.f k x775000 x775001 t779).bind fun bt780 => ((impl_Has.f k x775000 x775001 x1).bind fun t785 => (if t785 = true then (impl_Add.j1 k x1 true bt780.1 bt780.2) else ((impl_Table_keysIn.f k x775000 x775001).bind fun t786 => (impl_Add.j1 k x1 (t786 == 200) bt780.1 bt780.2)))))))
def impl_Add.j1 : Nat → ByteArray → Bool → Int → List (S50) → Option (Int × (List (S50)) × Bool)
 | 0, _, _, _, _ => none
 | k + 1, x1, x31, x785000, x785001 => if x31 = true then (some (x785000, x785001, false)) else ((impl_entryOf.f k x1).bind fun bt787 => ((impl_Table_with.f k x785000 x785001 bt787.1 bt787.2).bind fun bt789 => (some (bt789.1, bt789.2, true))))
end
def impl_Add.f (k : Nat) (a0_0 : Int) (l0_1 : List (S50)) (a1 : ByteArray) : Option (Int × (List (S50)) × Bool) := (impl_TableOk.f k a0_0 l0_1).bind fun t776 => (if t776 = true then ((impl_ItemOk.f k a1 (⟨#[]⟩ : ByteArray) 0).bind fun t777 => (impl_Add.j0 k a1 (!t777) a0_0 l0_1)) else (impl_Add.j0 k a1 true a0_0 l0_1))
theorem impl_Add.mono_l : ∀ k, (∀ y0 y1 y2 y3, LeO (impl_Add.j0 k y0 y1 y2 y3) (impl_Add.j0 (k + 1) y0 y1 y2 y3)) ∧ (∀ y0 y1 y2 y3, LeO (impl_Add.j1 k y0 y1 y2 y3) (impl_Add.j1 (k + 1) y0 y1 y2 y3))
 | 0 => ⟨fun _ _ _ _ r h => by simp [impl_Add.j0] at h, fun _ _ _ _ r h => by simp [impl_Add.j1] at h⟩
 | k + 1 => by
  obtain ⟨ih0, ih1⟩ := impl_Add.mono_l k
  refine ⟨?_, ?_⟩
  ·intro y0 y1 y2 y3
   unfold impl_Add.j0
   repeat' first | (with_reducible first | exact ih0 _ _ _ _ | exact ih1 _ _ _ _ | exact impl_Has.mono _ _ _ _ | exact impl_Hash.mono _ _ | exact impl_ItemOk.mono _ _ _ _ | exact impl_TableOk.mono _ _ _ | exact impl_Table_keysIn.mono _ _ _ | exact impl_Table_opened.mono _ _ _ _ | exact impl_Table_with.mono _ _ _ _ _ | exact impl_entryOf.mono _ _ | exact LeO.refl _ | exact LeO.none _ | refine LeO.ite ?_ ?_ | refine LeO.bind ?_ (fun _ => ?_)) | exact ih0 _ _ _ _ | exact ih1 _ _ _ _ | exact impl_Has.mono _ _ _ _ | exact impl_Hash.mono _ _ | exact impl_ItemOk.mono _ _ _ _ | exact impl_TableOk.mono _ _ _ | exact impl_Table_keysIn.mono _ _ _ | exact impl_Table_opened.mono _ _ _ _ | exact impl_Table_with.mono _ _ _ _ _ | exact impl_entryOf.mono _ _ | exact LeO.none _ | refine LeO.ite ?_ ?_ | refine LeO.bind ?_ (fun _ => ?_)
  ·intro y0 y1 y2 y3
   unfold impl_Add.j1
   repeat' first | (with_reducible first | exact ih0 _ _ _ _ | exact ih1 _ _ _ _ | exact impl_Has.mono _ _ _ _ | exact impl_Hash.mono _ _ | exact impl_ItemOk.mono _ _ _ _ | exact impl_TableOk.mono _ _ _ | exact impl_Table_keysIn.mono _ _ _ | exact impl_Table_opened.mono _ _ _ _ | exact impl_Table_with.mono _ _ _ _ _ | exact impl_entryOf.mono _ _ | exact LeO.refl _ | exact LeO.none _ | refine LeO.ite ?_ ?_ | refine LeO.bind ?_ (fun _ => ?_)) | exact ih0 _ _ _ _ | exact ih1 _ _ _ _ | exact impl_Has.mono _ _ _ _ | exact impl_Hash.mono _ _ | exact impl_ItemOk.mono _ _ _ _ | exact impl_TableOk.mono _ _ _ | exact impl_Table_keysIn.mono _ _ _ | exact impl_Table_opened.mono _ _ _ _ | exact impl_Table_with.mono _ _ _ _ _ | exact impl_entryOf.mono _ _ | exact LeO.none _ | refine LeO.ite ?_ ?_ | refine LeO.bind ?_ (fun _ => ?_)
theorem impl_Add.mono : ∀ a0 a1 a2 k, LeO (impl_Add.f k a0 a1 a2) (impl_Add.f (k + 1) a0 a1 a2) := by
 intro a0 a1 a2 k
 obtain ⟨ih0, ih1⟩ := impl_Add.mono_l k
 unfold impl_Add.f
 repeat' first | (with_reducible first | exact ih0 _ _ _ _ | exact ih1 _ _ _ _ | exact impl_Has.mono _ _ _ _ | exact impl_Hash.mono _ _ | exact impl_ItemOk.mono _ _ _ _ | exact impl_TableOk.mono _ _ _ | exact impl_Table_keysIn.mono _ _ _ | exact impl_Table_opened.mono _ _ _ _ | exact impl_Table_with.mono _ _ _ _ _ | exact impl_entryOf.mono _ _ | exact LeO.refl _ | exact LeO.none _ | refine LeO.ite ?_ ?_ | refine LeO.bind ?_ (fun _ => ?_)) | exact ih0 _ _ _ _ | exact ih1 _ _ _ _ | exact impl_Has.mono _ _ _ _ | exact impl_Hash.mono _ _ | exact impl_ItemOk.mono _ _ _ _ | exact impl_TableOk.mono _ _ _ | exact impl_Table_keysIn.mono _ _ _ | exact impl_Table_opened.mono _ _ _ _ | exact impl_Table_with.mono _ _ _ _ _ | exact impl_entryOf.mono _ _ | exact LeO.none _ | refine LeO.ite ?_ ?_ | refine LeO.bind ?_ (fun _ => ?_)
def impl_Add.T3 : Bool × List (List Nat × List Nat) := (true, [([], []), ([], []), ([1], [1]), ([], []), ([3], [3]), ([2, 4, 2], [2, 4]), ([0, 5, 5], [0, 5]), ([], []), ([7, 6, 6, 0, 1, 2, 3, 4, 5, 6, 7], [6, 7])])
def impl_Add.B3 : List Nat := [0, 0, 2, 0, 8, 30, 63, 0, 255]
theorem impl_Add.tab3 : rtab .any (opsOf Try.f34 3) = impl_Add.T3 := by kernel_rfl
theorem impl_Add.bits3 : waitsOk impl_Add.T3.2 impl_Add.B3 = true := by kernel_rfl
set_option maxHeartbeats 8000000 in
set_option maxRecDepth 100000 in
theorem impl_Add.calls (k : Nat) (a0_0 : Int) (A0_1 : Option Addr) (c0_1 : Nat) (l0_1 : List (S50)) (a1 : ByteArray) (r1 : Int) (r2 : List (S50)) (r3 : Bool) (w : World) (hr0_1 : Kd.C k50 w A0_1 l0_1.length l0_1) (hc0_1 : l0_1.length ≤ c0_1) (h : impl_Add.f k a0_0 l0_1 a1 = some (r1, r2, r3)) :
  Calls Try.prog 34 #[.agg #[.int .i64 a0_0, .slice A0_1 l0_1.length c0_1], .string a1] w fun e w' => ∃ v1_ : Value, e = .returned (.tuple #[.agg #[.int .i64 r1, v1_], .bool r3]) ∧ Kd.R k50 50 w' w.heap.size (fun _ => True) v1_ r2 ∧ Below w.heap.size w w' := by
 have hu29 := Try.underlying29
 have hu56 := Try.underlying56
 have HR0_1 := Aside0.mk hr0_1
 have HC0_1 := Aside0.mk hc0_1
 clear hr0_1 hc0_1
 have HB := Aside0.mk (Below.refl w.heap.size w)
 have H : ((impl_TableOk.f k a0_0 l0_1).bind fun t776 => (if t776 = true then ((impl_ItemOk.f k a1 (⟨#[]⟩ : ByteArray) 0).bind fun t777 => (impl_Add.j0 k a1 (!t777) a0_0 l0_1)) else (impl_Add.j0 k a1 true a0_0 l0_1))) = some (r1, r2, r3) := h
 clear h
 have HC3 := Aside0.mk H
 clear H
 go_enter Try.func34, Try.ntmps34
 go_upto_region 1 with (first | ((with_reducible refine gate_dst (N := 2) rfl ?_); refine box_event ?hg (N := 2) ?hd (cs := #[.int .i64 a0_0, .slice A0_1 l0_1.length c0_1]) (t := 29) ?hr ?_; (case hd => rfl); (case hg => rfl); (case hr => first | (go_simp; done) | (go_simp; rfl)); intro gb774 hg w4 hbox hb; have n0_ := Aside0.mk (below_step BL hb); have n1_ := Aside0.mk (hbox); have n2_ := Aside0.mk ((by rw [hg]; exact (below_size BL) : w.heap.size ≤ gb774)); have n3_ := Aside0.mk ((by rw [hg]; exact (below_size BL) : w.heap.size ≤ gb774)); clear HB; have HB := n0_; have BK774 := n1_; have GW774 := n2_; have GE774 := n3_; clear n0_ n1_ n2_ n3_; clear hb hbox hg) | ((with_reducible refine gate_dst (N := 4) rfl ?_); refine box_event ?hg (N := 4) ?hd (cs := #[.int .i64 0, .slice none 0 0]) (t := 29) ?hr ?_; (case hd => rfl); (case hg => rfl); (case hr => first | (go_simp; done) | (go_simp; rfl)); intro gb775 hg w5 hbox hb; have n0_ := Aside0.mk (blk_below (BD BK774) hb); have n1_ := Aside0.mk (below_step BG hb); have n2_ := Aside0.mk (hbox); have n3_ := Aside0.mk ((by rw [hg]; exact (below_size BG) : w.heap.size ≤ gb775)); have n4_ := Aside0.mk ((by rw [hg]; exact (below_size BG) : w.heap.size ≤ gb775)); have n5_ := Aside0.mk ((by rw [hg]; exact Nat.ne_of_lt (blk_lt (BD BK774)) : gb774 ≠ gb775)); have n6_ := Aside0.mk ((by rw [hg]; exact Nat.ne_of_gt (blk_lt (BD BK774)) : gb775 ≠ gb774)); clear BK774; clear HB; have BK774 := n0_; have HB := n1_; have BK775 := n2_; have GW775 := n3_; have GE775 := n4_; have NB774_775 := n5_; have NB775_774 := n6_; clear n0_ n1_ n2_ n3_ n4_ n5_ n6_; clear hb hbox hg))
 (try simp only [Act.put, List.setIfInBounds_toArray, List.set_cons_zero, List.set_cons_succ])
 go_cut [15] (fun v15 wc => ∃ (kq : Nat) (x15_2 : Bool), v15 = .bool x15_2 ∧ Aside0 (impl_Add.j0 kq a1 x15_2 a0_0 l0_1 = some (r1, r2, r3)) ∧ Aside0 (kq ≤ k) ∧ Aside0 (wc.heap[gb774]? = some (.cells #[.int .i64 a0_0, (.slice A0_1 l0_1.length c0_1)] 29 (0, 0))) ∧ Aside0 (wc.heap[gb775]? = some (.cells #[.int .i64 0, (.slice none 0 0)] 29 (0, 0))) ∧ Aside0 (Below w.heap.size w wc))
 case first =>
  have H := HC3.out
  clear HC3
  replace H := BS H
  obtain ⟨t776, A60, H⟩ := H
  have A6 := Aside0.mk A60
  clear A60
  by_cases c7 : t776 = true
  ·subst c7
   replace H := IP H
   replace H := BS H
   obtain ⟨t777, A80, H⟩ := H
   have A8 := Aside0.mk A80
   clear A80
   have H' := Aside0.mk H
   clear H
   have hnb9 := NB774_775.out
   have hnc9 := NB775_774.out
   obtain ⟨hcz10_0, hcz10_1, hfz10_0, hfz10_1⟩ := bk2 BK774.out
   go_wp2_with (first | ((with_reducible refine gate_callee (f := 14) rfl ?_); refine goesL_ (some 8) rfl rfl Try.func14 (by kernel_rfl) rfl #[.agg #[.int .i64 a0_0, .slice A0_1 l0_1.length c0_1]] rfl AQ ?_; (with_reducible refine (impl_TableOk.calls k a0_0 _ _ l0_1 true _ ?side1 ?side2 A6.out).mono ?_); (case side1 => exact SC HR0_1); (case side2 => exact HC0_1.out); rintro e w11 ⟨rfl, hb⟩; refine ⟨_, rfl, ?_⟩; have n0_ := Aside0.mk (blk_below (BD BK774) hb); have n1_ := Aside0.mk (blk_below (BD BK775) hb); have n2_ := Aside0.mk (below_step BG hb); clear BK774; clear BK775; clear HB; have BK774 := n0_; have BK775 := n1_; have HB := n2_; clear n0_ n1_ n2_; (try clear hb); (try clear hb2); (try clear hk); (try clear hi)) | (go_at_call 47; (with_reducible refine (impl_ItemOk.calls k a1 (⟨#[]⟩ : ByteArray) 0 t777 _ A8.out).mono ?_); rintro e w12 ⟨rfl, hb⟩; have n0_ := Aside0.mk (blk_below (BD BK774) hb); have n1_ := Aside0.mk (blk_below (BD BK775) hb); have n2_ := Aside0.mk (below_step BG hb); clear BK774; clear BK775; clear HB; have BK774 := n0_; have BK775 := n1_; have HB := n2_; clear n0_ n1_ n2_; (try clear hb); (try clear hb2); (try clear hk); (try clear hi)))
   go_meet
   case rel => exact ⟨_, (!t777), RS, H', ⟨by first | omega | exact Nat.le_refl _⟩, ⟨by (with_reducible repeat (first | refine blk_drewN ?_ _ | refine blk_drew ?_ | refine blk_alloc ?_ _)); exact BK774.out⟩, ⟨by (with_reducible repeat (first | refine blk_drewN ?_ _ | refine blk_drew ?_ | refine blk_alloc ?_ _)); exact BK775.out⟩, ⟨by repeat (first | (with_reducible first | exact HB.out | apply below_alloc | apply pw_below_drewN | apply below_drew1 | refine below_set ?_ GE774.out | refine below_set ?_ GE775.out) | exact HB.out)⟩⟩
  ·replace c7 := Bool.eq_false_iff.mpr c7
   subst c7
   replace H := IN H
   have H' := Aside0.mk H
   clear H
   have hnb13 := NB774_775.out
   have hnc13 := NB775_774.out
   obtain ⟨hcz14_0, hcz14_1, hfz14_0, hfz14_1⟩ := bk2 BK774.out
   go_wp2_with (first | ((with_reducible refine gate_callee (f := 14) rfl ?_); refine goesL_ (some 8) rfl rfl Try.func14 (by kernel_rfl) rfl #[.agg #[.int .i64 a0_0, .slice A0_1 l0_1.length c0_1]] rfl AQ ?_; (with_reducible refine (impl_TableOk.calls k a0_0 _ _ l0_1 false _ ?side1 ?side2 A6.out).mono ?_); (case side1 => exact SC HR0_1); (case side2 => exact HC0_1.out); rintro e w15 ⟨rfl, hb⟩; refine ⟨_, rfl, ?_⟩; have n0_ := Aside0.mk (blk_below (BD BK774) hb); have n1_ := Aside0.mk (blk_below (BD BK775) hb); have n2_ := Aside0.mk (below_step BG hb); clear BK774; clear BK775; clear HB; have BK774 := n0_; have BK775 := n1_; have HB := n2_; clear n0_ n1_ n2_; (try clear hb); (try clear hb2); (try clear hk); (try clear hi)))
   go_meet
   case rel => exact ⟨_, (true), RS, H', ⟨by first | omega | exact Nat.le_refl _⟩, ⟨by (with_reducible repeat (first | refine blk_drewN ?_ _ | refine blk_drew ?_ | refine blk_alloc ?_ _)); exact BK774.out⟩, ⟨by (with_reducible repeat (first | refine blk_drewN ?_ _ | refine blk_drew ?_ | refine blk_alloc ?_ _)); exact BK775.out⟩, ⟨by repeat (first | (with_reducible first | exact HB.out | apply below_alloc | apply pw_below_drewN | apply below_drew1 | refine below_set ?_ GE774.out | refine below_set ?_ GE775.out) | exact HB.out)⟩⟩
 case rest =>
  clear HC3
  try clear c1
  try clear p2
  try clear c3
  try clear c7
  try clear c9
  try clear c13
  try clear c14
  try clear hcz10_0
  try clear hcz10_1
  try clear hcz14_0
  try clear hcz14_1
  try clear hfz10_0
  try clear hfz10_1
  try clear hfz14_0
  try clear hfz14_1
  obtain ⟨kq, x15_2, rfl, HA, HJ2, BK774, BK775, HB⟩ := hcut
  cases kq with
  | zero => exact absurd HA.out (by simp [impl_Add.j0])
  | succ kj2 =>
   have H := HA.out
   clear HA
   simp only [impl_Add.j0] at H
   by_cases c16 : x15_2 = true
   ·subst c16
    replace H := IP H
    simp only [Option.some.injEq, Prod.mk.injEq] at H
    obtain ⟨rfl, rfl, rfl⟩ := H
    have hnb17 := NB775_774.out
    have hnc17 := NB774_775.out
    obtain ⟨hcz18_0, hcz18_1, hfz18_0, hfz18_1⟩ := bk2 BK775.out
    go_wp2
    refine bodyPost_ret (results_ct rfl _ _ gb775 29 #[.int .i64 0, .slice none 0 0] (0, 0) _ rfl (by (with_reducible repeat (first | refine blk_drewN ?_ _ | refine blk_drew ?_ | refine blk_alloc ?_ _)); refine blk_put (cs := #[.int .i64 0, .slice none 0 0]) ?_ 1 _ rfl; (with_reducible repeat (first | refine blk_drewN ?_ _ | refine blk_drew ?_ | refine blk_alloc ?_ _)); refine blk_put (cs := #[.int .i64 0, .slice none 0 0]) ?_ 0 _ rfl; (with_reducible repeat (first | refine blk_drewN ?_ _ | refine blk_drew ?_ | refine blk_alloc ?_ _)); exact BK775.out) Try.underlying29 rfl (by kernel_rfl)) rfl ?_
    exact ⟨_, by first | rfl | (simp [errW_none, errW_some] <;> rfl) | (simp [*, errW_none, errW_some] <;> rfl), by first | exact Kd.R_nil _ _ _ _ _ | exact Kd.N_nil _ _ _ _ _ | exact Kd.V_nil _ _ _ _ _ | exact Kd.Q_nil _ _ _ _ _ | exact Kd.S_nil _ _ _ _ _, BG⟩
   ·replace c16 := Bool.eq_false_iff.mpr c16
    subst c16
    replace H := IN H
    replace H := BS H
    obtain ⟨t778, A190, H⟩ := H
    have A19 := Aside0.mk A190
    clear A190
    replace H := BS H
    obtain ⟨t779, A200, H⟩ := H
    have A20 := Aside0.mk A200
    clear A200
    replace H := BS H
    obtain ⟨⟨t780, t781⟩, A210, H⟩ := H
    have A21 := Aside0.mk A210
    clear A210
    have HC22 := Aside0.mk H
    clear H
    try go_wp2
    have n0_ := Aside0.mk (blk_drew BK774.out)
    have n1_ := Aside0.mk (blk_drew BK775.out)
    have n2_ := Aside0.mk (below_drew1 HB.out)
    clear BK774
    clear BK775
    clear HB
    have BK774 := n0_
    have BK775 := n1_
    have HB := n2_
    clear n0_ n1_ n2_
    refine start_ (n := 9) (S := fun w' => w'.cell? ⟨gb774, 0, none⟩ = some (.int .i64 a0_0) ∧ w'.cell? ⟨gb774, 1, none⟩ = some (.slice A0_1 l0_1.length c0_1)) (ds := []) #[false, false, false, false, false, false, false, false, false] (by kernel_rfl) rfl rfl ⟨(blk_cell BK774.out 0).trans rfl, (blk_cell BK774.out 1).trans rfl⟩ (fun hHeld => ?_); refine with_tabW impl_Add.tab3 impl_Add.bits3 (fun HT_ HW_ => ?_)
    generalize wc.drew = w23 at BK774 BK775 HB hHeld ⊢
    refine PU (i := 1) (N := some 18) #[false, true, false, false, false, false, false, false, false] rfl rfl HT_ ?_
    refine PU (i := 3) (N := some 20) #[false, true, false, true, false, false, false, false, false] rfl rfl HT_ ?_
    refine PT (i := 0) (N := some 17) #[true, true, false, true, false, false, false, false, false] rfl rfl HT_ HW_ hHeld ?_
    refine PT (i := 4) (N := some 21) #[true, true, false, true, true, false, false, false, false] rfl rfl HT_ HW_ hHeld ?_
    refine join_ (σ := Value × Nat) 1 #[true, true, true, true, true, true, true, true, false] (fun s_ => [(19, .int .i64 t778), (22, .int .i64 t779), (23, .agg #[.int .i64 t780, s_.1]), (6, .pointer (some ⟨s_.2, 0, none⟩))]) (fun s_ w' => (w'.cell? ⟨gb774, 0, none⟩ = some (.int .i64 a0_0) ∧ w'.cell? ⟨gb774, 1, none⟩ = some (.slice A0_1 l0_1.length c0_1)) ∧ (Kd.R k50 50 w' w.heap.size (fun _ => True) s_.1 t781) ∧ (w'.heap[gb774]? = some (.cells #[.int .i64 a0_0, .slice A0_1 l0_1.length c0_1] 29 (0, 0))) ∧ (w'.heap[gb775]? = some (.cells #[.int .i64 0, .slice none 0 0] 29 (0, 0))) ∧ (w'.heap[s_.2]? = some (.cells #[.int .i64 0, .slice none 0 0] 29 (0, 0))) ∧ (w.heap.size ≤ s_.2) ∧ (w.heap.size ≤ s_.2) ∧ (gb774 ≠ s_.2) ∧ (s_.2 ≠ gb774) ∧ (gb775 ≠ s_.2) ∧ (s_.2 ≠ gb775) ∧ (Below w.heap.size w w')) ?_ ?_
    rotate_left
    ·intro hCont
     refine two_ (i := 2) (j := 7) (Ni := some 19) (Nj := some 6) #[true, true, true, true, true, false, false, false, false] #[true, true, false, true, true, false, false, true, false] rfl rfl rfl rfl (two_of HT_.out (by kernel_rfl)) (by decide) (by decide) (fun K hK => ?_) (fun K hK => ?_)
     ·skip
      refine goes_ Try.func67 (by kernel_rfl) rfl #[.string a1] (by rfl) rfl rfl AQ ?_
      with_reducible refine (impl_Hash.calls kj2 a1 t778 _ A19.out).mono ?_
      rintro e w' ⟨rfl, ⟨nd, rfl⟩⟩
      refine ⟨_, rfl, ?_⟩
      refine hK.out _ _ ⟨(blk_cell BK774.out 0).trans rfl, (blk_cell BK774.out 1).trans rfl⟩ (fun hHeld => ?_)
      clear hK K
      refine NM (some 19) ?_
      refine two_ (i := 5) (j := 7) (Ni := some 22) (Nj := some 6) #[true, true, true, true, true, true, false, false, false] #[true, true, true, true, true, false, false, true, false] rfl rfl rfl rfl (two_of HT_.out (by kernel_rfl)) (by decide) (by decide) (fun K hK => ?_) (fun K hK => ?_)
      ·skip
       refine goes_ Try.func66 (by kernel_rfl) rfl #[.int .i64 t778, .int .i64 a0_0] (by rfl) rfl rfl AQ ?_
       with_reducible refine (impl_Bucket.calls t778 a0_0 t779 _ A20.out).mono ?_
       rintro e w' ⟨rfl, ⟨nd, rfl⟩⟩
       refine ⟨_, rfl, ?_⟩
       refine hK.out _ _ ⟨(blk_cell BK774.out 0).trans rfl, (blk_cell BK774.out 1).trans rfl⟩ (fun hHeld => ?_)
       clear hK K
       refine NM (some 22) ?_
       refine two_ (i := 6) (j := 7) (Ni := some 23) (Nj := some 6) #[true, true, true, true, true, true, true, false, false] #[true, true, true, true, true, true, false, true, false] rfl rfl rfl rfl (two_of HT_.out (by kernel_rfl)) (by decide) (by decide) (fun K hK => ?_) (fun K hK => ?_)
       ·skip
        refine goes_ Try.func62 (by kernel_rfl) rfl #[.agg #[.int .i64 a0_0, .slice A0_1 l0_1.length c0_1], .int .i64 t779] (by rfl) rfl rfl AQ ?_
        with_reducible refine (impl_Table_opened.calls kj2 a0_0 _ _ l0_1 t779 t780 t781 _ ?side1 ?side2 A21.out).mono ?_
        (case side1 => repeat (first | exact (Kd.C_below HR0_1.out BG) | (with_reducible refine Kd.C_alloc ?_ _) | (with_reducible refine Kd.C_drewN ?_ _) | (with_reducible refine Kd.C_drew ?_)))
        (case side2 => exact HC0_1.out)
        rintro e w24 ⟨v782, rfl, ho0, hb⟩
        refine ⟨_, rfl, ?_⟩
        have n0_ := Aside0.mk (Kd.R_lower ho0 (below_size BG))
        have n1_ := Aside0.mk (blk_below (BD BK774) hb)
        have n2_ := Aside0.mk (blk_below (BD BK775) hb)
        have n3_ := Aside0.mk (below_step BG hb)
        clear BK774
        clear BK775
        clear HB
        have HO783 := n0_
        have BK774 := n1_
        have BK775 := n2_
        have HB := n3_
        clear n0_ n1_ n2_ n3_
        (try clear hb)
        (try clear hb2)
        (try clear hk)
        (try clear hi)
        (try clear ho0)
        refine hK.out _ _ ⟨(blk_cell BK774.out 0).trans rfl, (blk_cell BK774.out 1).trans rfl⟩ (fun hHeld => ?_)
        clear hK K
        refine NM (some 23) ?_
        refine one_ (i := 7) (N := some 6) (tf 8 1) rfl rfl (one_of HT_.out (by kernel_rfl)) (by decide) (fun K hK => ?_)
        refine box_step ?hg (N := 6) ?hd (cs := #[.int .i64 0, .slice none 0 0]) (t := 29) ?hr ?_; (case hd => rfl); (case hg => rfl); (case hr => first | (go_simp; done) | (go_simp; rfl))
        intro gb784 hg w25 hbox hb
        have n0_ := Aside0.mk (Kd.R_below (RD HO783) hb)
        have n1_ := Aside0.mk (blk_below (BD BK774) hb)
        have n2_ := Aside0.mk (blk_below (BD BK775) hb)
        have n3_ := Aside0.mk (below_step BG hb)
        have n4_ := Aside0.mk (hbox)
        have n5_ := Aside0.mk ((by rw [hg]; exact (below_size BG) : w.heap.size ≤ gb784))
        have n6_ := Aside0.mk ((by rw [hg]; exact (below_size BG) : w.heap.size ≤ gb784))
        have n7_ := Aside0.mk ((by rw [hg]; exact Nat.ne_of_lt (blk_lt (BD BK774)) : gb774 ≠ gb784))
        have n8_ := Aside0.mk ((by rw [hg]; exact Nat.ne_of_gt (blk_lt (BD BK774)) : gb784 ≠ gb774))
        have n9_ := Aside0.mk ((by rw [hg]; exact Nat.ne_of_lt (blk_lt (BD BK775)) : gb775 ≠ gb784))
        have n10_ := Aside0.mk ((by rw [hg]; exact Nat.ne_of_gt (blk_lt (BD BK775)) : gb784 ≠ gb775))
        clear HO783
        clear BK774
        clear BK775
        clear HB
        have HO783 := n0_
        have BK774 := n1_
        have BK775 := n2_
        have HB := n3_
        have BK784 := n4_
        have GW784 := n5_
        have GE784 := n6_
        have NB774_784 := n7_
        have NB784_774 := n8_
        have NB775_784 := n9_
        have NB784_775 := n10_
        clear n0_ n1_ n2_ n3_ n4_ n5_ n6_ n7_ n8_ n9_ n10_
        clear hb hbox hg
        refine hK.out _ _ ⟨(blk_cell BK774.out 0).trans rfl, (blk_cell BK774.out 1).trans rfl⟩ (fun hHeld => ?_)
        clear hK K
        refine NM (some 6) ?_
        exact norm_ (by simp only [putAll, Act.put, List.setIfInBounds_toArray, List.set_cons_zero, List.set_cons_succ]) (hCont (v782, gb784) _ ⟨hHeld, (RD HO783), (by (with_reducible repeat (first | refine blk_drewN ?_ _ | refine blk_drew ?_ | refine blk_alloc ?_ _)); exact BK774.out), (by (with_reducible repeat (first | refine blk_drewN ?_ _ | refine blk_drew ?_ | refine blk_alloc ?_ _)); exact BK775.out), (by (with_reducible repeat (first | refine blk_drewN ?_ _ | refine blk_drew ?_ | refine blk_alloc ?_ _)); exact BK784.out), GW784.out, GE784.out, NB774_784.out, NB784_774.out, NB775_784.out, NB784_775.out, BG⟩)
       ·skip
        refine box_step ?hg (N := 6) ?hd (cs := #[.int .i64 0, .slice none 0 0]) (t := 29) ?hr ?_; (case hd => rfl); (case hg => rfl); (case hr => first | (go_simp; done) | (go_simp; rfl))
        intro gb784 hg w24 hbox hb
        have n0_ := Aside0.mk (blk_below (BD BK774) hb)
        have n1_ := Aside0.mk (blk_below (BD BK775) hb)
        have n2_ := Aside0.mk (below_step BG hb)
        have n3_ := Aside0.mk (hbox)
        have n4_ := Aside0.mk ((by rw [hg]; exact (below_size BG) : w.heap.size ≤ gb784))
        have n5_ := Aside0.mk ((by rw [hg]; exact (below_size BG) : w.heap.size ≤ gb784))
        have n6_ := Aside0.mk ((by rw [hg]; exact Nat.ne_of_lt (blk_lt (BD BK774)) : gb774 ≠ gb784))
        have n7_ := Aside0.mk ((by rw [hg]; exact Nat.ne_of_gt (blk_lt (BD BK774)) : gb784 ≠ gb774))
        have n8_ := Aside0.mk ((by rw [hg]; exact Nat.ne_of_lt (blk_lt (BD BK775)) : gb775 ≠ gb784))
        have n9_ := Aside0.mk ((by rw [hg]; exact Nat.ne_of_gt (blk_lt (BD BK775)) : gb784 ≠ gb775))
        clear BK774
        clear BK775
        clear HB
        have BK774 := n0_
        have BK775 := n1_
        have HB := n2_
        have BK784 := n3_
        have GW784 := n4_
        have GE784 := n5_
        have NB774_784 := n6_
        have NB784_774 := n7_
        have NB775_784 := n8_
        have NB784_775 := n9_
        clear n0_ n1_ n2_ n3_ n4_ n5_ n6_ n7_ n8_ n9_
        clear hb hbox hg
        refine hK.out _ _ ⟨(blk_cell BK774.out 0).trans rfl, (blk_cell BK774.out 1).trans rfl⟩ (fun hHeld => ?_)
        clear hK K
        refine NM (some 6) ?_
        refine one_ (i := 6) (N := some 23) (tf 8 1) rfl rfl (one_of HT_.out (by kernel_rfl)) (by decide) (fun K hK => ?_)
        refine goes_ Try.func62 (by kernel_rfl) rfl #[.agg #[.int .i64 a0_0, .slice A0_1 l0_1.length c0_1], .int .i64 t779] (by rfl) rfl rfl AQ ?_
        with_reducible refine (impl_Table_opened.calls kj2 a0_0 _ _ l0_1 t779 t780 t781 _ ?side1 ?side2 A21.out).mono ?_
        (case side1 => exact SC HR0_1)
        (case side2 => exact HC0_1.out)
        rintro e w25 ⟨v782, rfl, ho0, hb⟩
        refine ⟨_, rfl, ?_⟩
        have n0_ := Aside0.mk (Kd.R_lower ho0 (below_size BG))
        have n1_ := Aside0.mk (blk_below (BD BK774) hb)
        have n2_ := Aside0.mk (blk_below (BD BK775) hb)
        have n3_ := Aside0.mk (blk_below (BD BK784) hb)
        have n4_ := Aside0.mk (below_step BG hb)
        clear BK774
        clear BK775
        clear BK784
        clear HB
        have HO783 := n0_
        have BK774 := n1_
        have BK775 := n2_
        have BK784 := n3_
        have HB := n4_
        clear n0_ n1_ n2_ n3_ n4_
        (try clear hb)
        (try clear hb2)
        (try clear hk)
        (try clear hi)
        (try clear ho0)
        refine hK.out _ _ ⟨(blk_cell BK774.out 0).trans rfl, (blk_cell BK774.out 1).trans rfl⟩ (fun hHeld => ?_)
        clear hK K
        refine NM (some 23) ?_
        exact norm_ (by simp only [putAll, Act.put, List.setIfInBounds_toArray, List.set_cons_zero, List.set_cons_succ]) (hCont (v782, gb784) _ ⟨hHeld, (RD HO783), (by (with_reducible repeat (first | refine blk_drewN ?_ _ | refine blk_drew ?_ | refine blk_alloc ?_ _)); exact BK774.out), (by (with_reducible repeat (first | refine blk_drewN ?_ _ | refine blk_drew ?_ | refine blk_alloc ?_ _)); exact BK775.out), (by (with_reducible repeat (first | refine blk_drewN ?_ _ | refine blk_drew ?_ | refine blk_alloc ?_ _)); exact BK784.out), GW784.out, GE784.out, NB774_784.out, NB784_774.out, NB775_784.out, NB784_775.out, BG⟩)
      ·skip
       refine box_step ?hg (N := 6) ?hd (cs := #[.int .i64 0, .slice none 0 0]) (t := 29) ?hr ?_; (case hd => rfl); (case hg => rfl); (case hr => first | (go_simp; done) | (go_simp; rfl))
       intro gb784 hg w24 hbox hb
       have n0_ := Aside0.mk (blk_below (BD BK774) hb)
       have n1_ := Aside0.mk (blk_below (BD BK775) hb)
       have n2_ := Aside0.mk (below_step BG hb)
       have n3_ := Aside0.mk (hbox)
       have n4_ := Aside0.mk ((by rw [hg]; exact (below_size BG) : w.heap.size ≤ gb784))
       have n5_ := Aside0.mk ((by rw [hg]; exact (below_size BG) : w.heap.size ≤ gb784))
       have n6_ := Aside0.mk ((by rw [hg]; exact Nat.ne_of_lt (blk_lt (BD BK774)) : gb774 ≠ gb784))
       have n7_ := Aside0.mk ((by rw [hg]; exact Nat.ne_of_gt (blk_lt (BD BK774)) : gb784 ≠ gb774))
       have n8_ := Aside0.mk ((by rw [hg]; exact Nat.ne_of_lt (blk_lt (BD BK775)) : gb775 ≠ gb784))
       have n9_ := Aside0.mk ((by rw [hg]; exact Nat.ne_of_gt (blk_lt (BD BK775)) : gb784 ≠ gb775))
       clear BK774
       clear BK775
       clear HB
       have BK774 := n0_
       have BK775 := n1_
       have HB := n2_
       have BK784 := n3_
       have GW784 := n4_
       have GE784 := n5_
       have NB774_784 := n6_
       have NB784_774 := n7_
       have NB775_784 := n8_
       have NB784_775 := n9_
       clear n0_ n1_ n2_ n3_ n4_ n5_ n6_ n7_ n8_ n9_
       clear hb hbox hg
       refine hK.out _ _ ⟨(blk_cell BK774.out 0).trans rfl, (blk_cell BK774.out 1).trans rfl⟩ (fun hHeld => ?_)
       clear hK K
       refine NM (some 6) ?_
       refine one_ (i := 5) (N := some 22) #[true, true, true, true, true, true, false, true, false] rfl rfl (one_of HT_.out (by kernel_rfl)) (by decide) (fun K hK => ?_)
       refine goes_ Try.func66 (by kernel_rfl) rfl #[.int .i64 t778, .int .i64 a0_0] (by rfl) rfl rfl AQ ?_
       with_reducible refine (impl_Bucket.calls t778 a0_0 t779 _ A20.out).mono ?_
       rintro e w' ⟨rfl, ⟨nd, rfl⟩⟩
       refine ⟨_, rfl, ?_⟩
       refine hK.out _ _ ⟨(blk_cell BK774.out 0).trans rfl, (blk_cell BK774.out 1).trans rfl⟩ (fun hHeld => ?_)
       clear hK K
       refine NM (some 22) ?_
       refine one_ (i := 6) (N := some 23) (tf 8 1) rfl rfl (one_of HT_.out (by kernel_rfl)) (by decide) (fun K hK => ?_)
       refine goes_ Try.func62 (by kernel_rfl) rfl #[.agg #[.int .i64 a0_0, .slice A0_1 l0_1.length c0_1], .int .i64 t779] (by rfl) rfl rfl AQ ?_
       with_reducible refine (impl_Table_opened.calls kj2 a0_0 _ _ l0_1 t779 t780 t781 _ ?side1 ?side2 A21.out).mono ?_
       (case side1 => repeat (first | exact (Kd.C_below HR0_1.out BG) | (with_reducible refine Kd.C_alloc ?_ _) | (with_reducible refine Kd.C_drewN ?_ _) | (with_reducible refine Kd.C_drew ?_)))
       (case side2 => exact HC0_1.out)
       rintro e w25 ⟨v782, rfl, ho0, hb⟩
       refine ⟨_, rfl, ?_⟩
       have n0_ := Aside0.mk (Kd.R_lower ho0 (below_size BG))
       have n1_ := Aside0.mk (blk_below (BD BK774) hb)
       have n2_ := Aside0.mk (blk_below (BD BK775) hb)
       have n3_ := Aside0.mk (blk_below (BD BK784) hb)
       have n4_ := Aside0.mk (below_step BG hb)
       clear BK774
       clear BK775
       clear BK784
       clear HB
       have HO783 := n0_
       have BK774 := n1_
       have BK775 := n2_
       have BK784 := n3_
       have HB := n4_
       clear n0_ n1_ n2_ n3_ n4_
       (try clear hb)
       (try clear hb2)
       (try clear hk)
       (try clear hi)
       (try clear ho0)
       refine hK.out _ _ ⟨(blk_cell BK774.out 0).trans rfl, (blk_cell BK774.out 1).trans rfl⟩ (fun hHeld => ?_)
       clear hK K
       refine NM (some 23) ?_
       exact norm_ (by simp only [putAll, Act.put, List.setIfInBounds_toArray, List.set_cons_zero, List.set_cons_succ]) (hCont (v782, gb784) _ ⟨hHeld, (RD HO783), (by (with_reducible repeat (first | refine blk_drewN ?_ _ | refine blk_drew ?_ | refine blk_alloc ?_ _)); exact BK774.out), (by (with_reducible repeat (first | refine blk_drewN ?_ _ | refine blk_drew ?_ | refine blk_alloc ?_ _)); exact BK775.out), (by (with_reducible repeat (first | refine blk_drewN ?_ _ | refine blk_drew ?_ | refine blk_alloc ?_ _)); exact BK784.out), GW784.out, GE784.out, NB774_784.out, NB784_774.out, NB775_784.out, NB784_775.out, BG⟩)
     ·skip
      refine box_step ?hg (N := 6) ?hd (cs := #[.int .i64 0, .slice none 0 0]) (t := 29) ?hr ?_; (case hd => rfl); (case hg => rfl); (case hr => first | (go_simp; done) | (go_simp; rfl))
      intro gb784 hg w24 hbox hb
      have n0_ := Aside0.mk (blk_below (BD BK774) hb)
      have n1_ := Aside0.mk (blk_below (BD BK775) hb)
      have n2_ := Aside0.mk (below_step BG hb)
      have n3_ := Aside0.mk (hbox)
      have n4_ := Aside0.mk ((by rw [hg]; exact (below_size BG) : w.heap.size ≤ gb784))
      have n5_ := Aside0.mk ((by rw [hg]; exact (below_size BG) : w.heap.size ≤ gb784))
      have n6_ := Aside0.mk ((by rw [hg]; exact Nat.ne_of_lt (blk_lt (BD BK774)) : gb774 ≠ gb784))
      have n7_ := Aside0.mk ((by rw [hg]; exact Nat.ne_of_gt (blk_lt (BD BK774)) : gb784 ≠ gb774))
      have n8_ := Aside0.mk ((by rw [hg]; exact Nat.ne_of_lt (blk_lt (BD BK775)) : gb775 ≠ gb784))
      have n9_ := Aside0.mk ((by rw [hg]; exact Nat.ne_of_gt (blk_lt (BD BK775)) : gb784 ≠ gb775))
      clear BK774
      clear BK775
      clear HB
      have BK774 := n0_
      have BK775 := n1_
      have HB := n2_
      have BK784 := n3_
      have GW784 := n4_
      have GE784 := n5_
      have NB774_784 := n6_
      have NB784_774 := n7_
      have NB775_784 := n8_
      have NB784_775 := n9_
      clear n0_ n1_ n2_ n3_ n4_ n5_ n6_ n7_ n8_ n9_
      clear hb hbox hg
      refine hK.out _ _ ⟨(blk_cell BK774.out 0).trans rfl, (blk_cell BK774.out 1).trans rfl⟩ (fun hHeld => ?_)
      clear hK K
      refine NM (some 6) ?_
      refine one_ (i := 2) (N := some 19) #[true, true, true, true, true, false, false, true, false] rfl rfl (one_of HT_.out (by kernel_rfl)) (by decide) (fun K hK => ?_)
      refine goes_ Try.func67 (by kernel_rfl) rfl #[.string a1] (by rfl) rfl rfl AQ ?_
      with_reducible refine (impl_Hash.calls kj2 a1 t778 _ A19.out).mono ?_
      rintro e w' ⟨rfl, ⟨nd, rfl⟩⟩
      refine ⟨_, rfl, ?_⟩
      refine hK.out _ _ ⟨(blk_cell BK774.out 0).trans rfl, (blk_cell BK774.out 1).trans rfl⟩ (fun hHeld => ?_)
      clear hK K
      refine NM (some 19) ?_
      refine one_ (i := 5) (N := some 22) #[true, true, true, true, true, true, false, true, false] rfl rfl (one_of HT_.out (by kernel_rfl)) (by decide) (fun K hK => ?_)
      refine goes_ Try.func66 (by kernel_rfl) rfl #[.int .i64 t778, .int .i64 a0_0] (by rfl) rfl rfl AQ ?_
      with_reducible refine (impl_Bucket.calls t778 a0_0 t779 _ A20.out).mono ?_
      rintro e w' ⟨rfl, ⟨nd, rfl⟩⟩
      refine ⟨_, rfl, ?_⟩
      refine hK.out _ _ ⟨(blk_cell BK774.out 0).trans rfl, (blk_cell BK774.out 1).trans rfl⟩ (fun hHeld => ?_)
      clear hK K
      refine NM (some 22) ?_
      refine one_ (i := 6) (N := some 23) (tf 8 1) rfl rfl (one_of HT_.out (by kernel_rfl)) (by decide) (fun K hK => ?_)
      refine goes_ Try.func62 (by kernel_rfl) rfl #[.agg #[.int .i64 a0_0, .slice A0_1 l0_1.length c0_1], .int .i64 t779] (by rfl) rfl rfl AQ ?_
      with_reducible refine (impl_Table_opened.calls kj2 a0_0 _ _ l0_1 t779 t780 t781 _ ?side1 ?side2 A21.out).mono ?_
      (case side1 => repeat (first | exact (Kd.C_below HR0_1.out BG) | (with_reducible refine Kd.C_alloc ?_ _) | (with_reducible refine Kd.C_drewN ?_ _) | (with_reducible refine Kd.C_drew ?_)))
      (case side2 => exact HC0_1.out)
      rintro e w25 ⟨v782, rfl, ho0, hb⟩
      refine ⟨_, rfl, ?_⟩
      have n0_ := Aside0.mk (Kd.R_lower ho0 (below_size BG))
      have n1_ := Aside0.mk (blk_below (BD BK774) hb)
      have n2_ := Aside0.mk (blk_below (BD BK775) hb)
      have n3_ := Aside0.mk (blk_below (BD BK784) hb)
      have n4_ := Aside0.mk (below_step BG hb)
      clear BK774
      clear BK775
      clear BK784
      clear HB
      have HO783 := n0_
      have BK774 := n1_
      have BK775 := n2_
      have BK784 := n3_
      have HB := n4_
      clear n0_ n1_ n2_ n3_ n4_
      (try clear hb)
      (try clear hb2)
      (try clear hk)
      (try clear hi)
      (try clear ho0)
      refine hK.out _ _ ⟨(blk_cell BK774.out 0).trans rfl, (blk_cell BK774.out 1).trans rfl⟩ (fun hHeld => ?_)
      clear hK K
      refine NM (some 23) ?_
      exact norm_ (by simp only [putAll, Act.put, List.setIfInBounds_toArray, List.set_cons_zero, List.set_cons_succ]) (hCont (v782, gb784) _ ⟨hHeld, (RD HO783), (by (with_reducible repeat (first | refine blk_drewN ?_ _ | refine blk_drew ?_ | refine blk_alloc ?_ _)); exact BK774.out), (by (with_reducible repeat (first | refine blk_drewN ?_ _ | refine blk_drew ?_ | refine blk_alloc ?_ _)); exact BK775.out), (by (with_reducible repeat (first | refine blk_drewN ?_ _ | refine blk_drew ?_ | refine blk_alloc ?_ _)); exact BK784.out), GW784.out, GE784.out, NB774_784.out, NB784_774.out, NB775_784.out, NB784_775.out, BG⟩)
    rintro ⟨v782, gb784⟩ w26 ⟨hS_, h0_, h1_, h2_, h3_, h4_, h5_, h6_, h7_, h8_, h9_, h10_⟩
    have n0_ : Aside0 (Kd.R k50 50 w26 w.heap.size (fun _ => True) v782 t781) := ⟨h0_⟩
    have n1_ : Aside0 (w26.heap[gb774]? = some (.cells #[.int .i64 a0_0, .slice A0_1 l0_1.length c0_1] 29 (0, 0))) := ⟨h1_⟩
    have n2_ : Aside0 (w26.heap[gb775]? = some (.cells #[.int .i64 0, .slice none 0 0] 29 (0, 0))) := ⟨h2_⟩
    have n3_ : Aside0 (w26.heap[gb784]? = some (.cells #[.int .i64 0, .slice none 0 0] 29 (0, 0))) := ⟨h3_⟩
    have n4_ : Aside0 (w.heap.size ≤ gb784) := ⟨h4_⟩
    have n5_ : Aside0 (w.heap.size ≤ gb784) := ⟨h5_⟩
    have n6_ : Aside0 (gb774 ≠ gb784) := ⟨h6_⟩
    have n7_ : Aside0 (gb784 ≠ gb774) := ⟨h7_⟩
    have n8_ : Aside0 (gb775 ≠ gb784) := ⟨h8_⟩
    have n9_ : Aside0 (gb784 ≠ gb775) := ⟨h9_⟩
    have n10_ : Aside0 (Below w.heap.size w w26) := ⟨h10_⟩
    clear BK774
    clear BK775
    clear HB
    clear h0_ h1_ h2_ h3_ h4_ h5_ h6_ h7_ h8_ h9_ h10_
    have HO783 := n0_
    have BK774 := n1_
    have BK775 := n2_
    have BK784 := n3_
    have GW784 := n4_
    have GE784 := n5_
    have NB774_784 := n6_
    have NB784_774 := n7_
    have NB775_784 := n8_
    have NB784_775 := n9_
    have HB := n10_
    clear n0_ n1_ n2_ n3_ n4_ n5_ n6_ n7_ n8_ n9_ n10_
    have hHeld : w26.cell? ⟨gb774, 0, none⟩ = some (.int .i64 a0_0) ∧ w26.cell? ⟨gb774, 1, none⟩ = some (.slice A0_1 l0_1.length c0_1) := hS_
    obtain ⟨Ao28, co28, eo28⟩ := Kd.R_slice HO783.out
    (first | subst eo28 | (injection eo28 with f1_ f2_ f3_; have f4_ := f1_.symm; have f5_ := f3_.symm; clear f1_ f2_ f3_; subst f4_; subst f5_))
    refine norm_ (a' := ?_) ?_ ?_
    rotate_left
    ·simp only [putAll, Act.put, List.setIfInBounds_toArray, List.set_cons_zero, List.set_cons_succ]
     rfl
    refine one_ (i := 8) (N := none) (tf 9 0) rfl rfl (one_of HT_.out (by kernel_rfl)) (by decide) (fun K hK => ?_)
    have hs27 : w26.cell? ⟨gb784, 0, none⟩ = some (.int .i64 0) := (blk_cell BK784.out 0).trans rfl
    have hfs27 := blk_frozen BK784.out 0
    have hns27_0 := NB774_784.out
    have hns27_1 := NB775_784.out
    have hms27_0 := NB784_774.out
    have hms27_1 := NB784_775.out
    have hs29 : w26.cell? ⟨gb784, 1, none⟩ = some (.slice none 0 0) := (blk_cell BK784.out 1).trans rfl
    have hfs29 := blk_frozen BK784.out 1
    have hns29_0 := NB774_784.out
    have hns29_1 := NB775_784.out
    have hms29_0 := NB784_774.out
    have hms29_1 := NB784_775.out
    refine skip_ (w1 := ?_) (by rfl) rfl ?_ ?_
    rotate_left
    ·go_simp
     rfl
    refine hK.out _ _ ⟨((cell_far (p := ⟨gb784, _, none⟩) NB774_784.out _).trans (((cell_far (p := ⟨gb784, _, none⟩) NB774_784.out _).trans (hHeld.1)))), ((cell_far (p := ⟨gb784, _, none⟩) NB774_784.out _).trans (((cell_far (p := ⟨gb784, _, none⟩) NB774_784.out _).trans (hHeld.2))))⟩ (fun hHeld => ?_)
    clear hK K
    refine done_ (done_of HT_.out (by kernel_rfl)) ?_
    go_upto_region 4 with (fail)
    go_cut [31] (fun v31 wc => ∃ (kq : Nat) (x31_21 : Bool), v31 = .bool x31_21 ∧ Aside0 (impl_Add.j1 kq a1 x31_21 t780 t781 = some (r1, r2, r3)) ∧ Aside0 (kq ≤ kj2) ∧ Aside0 (Kd.R k50 50 wc w.heap.size (fun _ => True) (.slice Ao28 t781.length co28) t781) ∧ Aside0 (wc.heap[gb774]? = some (.cells #[.int .i64 a0_0, (.slice A0_1 l0_1.length c0_1)] 29 (0, 0))) ∧ Aside0 (wc.heap[gb775]? = some (.cells #[.int .i64 0, (.slice none 0 0)] 29 (0, 0))) ∧ Aside0 (wc.heap[gb784]? = some (.cells #[.int .i64 t780, (.slice Ao28 t781.length co28)] 29 (0, 0))) ∧ Aside0 (Below w.heap.size w wc))
    case first =>
     have H := HC22.out
     clear HC22
     replace H := BS H
     obtain ⟨t785, A300, H⟩ := H
     have A30 := Aside0.mk A300
     clear A300
     by_cases c31 : t785 = true
     ·subst c31
      replace H := IP H
      have H' := Aside0.mk H
      clear H
      have hnb32 := NB774_775.out
      have hnc32 := NB775_774.out
      have hnb33 := NB774_784.out
      have hnc33 := NB784_774.out
      obtain ⟨hcz34_0, hcz34_1, hfz34_0, hfz34_1⟩ := bk2 BK774.out
      go_wp2_with (first | ((with_reducible refine gate_callee (f := 17) rfl ?_); refine goesL_ (some 26) rfl rfl Try.func17 (by kernel_rfl) rfl #[.agg #[.int .i64 a0_0, .slice A0_1 l0_1.length c0_1], .string a1] rfl AQ ?_; (with_reducible refine (impl_Has.calls kj2 a0_0 _ _ l0_1 a1 true _ ?side1 ?side2 A30.out).mono ?_); (case side1 => exact Kd.C_below HR0_1.out BG); (case side2 => exact HC0_1.out); rintro e w35 ⟨rfl, hb⟩; refine ⟨_, rfl, ?_⟩; have n0_ := Aside0.mk (Kd.R_below (by (with_reducible repeat (first | apply Kd.R_alloc | apply Kd.R_drewN | apply Kd.R_drew)); exact (FM (FR (FR (Kd.R_types HO783.out BK784.out (by decide)))))) hb); have n1_ := Aside0.mk (blk_below (g := gb774) (o := .cells #[.int .i64 a0_0, .slice A0_1 l0_1.length c0_1] 29 (0, 0)) (by (with_reducible repeat (first | refine blk_drewN ?_ _ | refine blk_drew ?_ | refine blk_alloc ?_ _)); refine blk_far ?_ NB774_784.out _; (with_reducible repeat (first | refine blk_drewN ?_ _ | refine blk_drew ?_ | refine blk_alloc ?_ _)); refine blk_far ?_ NB774_784.out _; (with_reducible repeat (first | refine blk_drewN ?_ _ | refine blk_drew ?_ | refine blk_alloc ?_ _)); exact BK774.out) hb); have n2_ := Aside0.mk (blk_below (g := gb775) (o := .cells #[.int .i64 0, .slice none 0 0] 29 (0, 0)) (by (with_reducible repeat (first | refine blk_drewN ?_ _ | refine blk_drew ?_ | refine blk_alloc ?_ _)); refine blk_far ?_ NB775_784.out _; (with_reducible repeat (first | refine blk_drewN ?_ _ | refine blk_drew ?_ | refine blk_alloc ?_ _)); refine blk_far ?_ NB775_784.out _; (with_reducible repeat (first | refine blk_drewN ?_ _ | refine blk_drew ?_ | refine blk_alloc ?_ _)); exact BK775.out) hb); have n3_ := Aside0.mk (blk_below (g := gb784) (o := .cells #[.int .i64 t780, .slice Ao28 t781.length co28] 29 (0, 0)) (by (with_reducible repeat (first | refine blk_drewN ?_ _ | refine blk_drew ?_ | refine blk_alloc ?_ _)); refine blk_put (cs := #[.int .i64 t780, .slice none 0 0]) ?_ 1 _ rfl; (with_reducible repeat (first | refine blk_drewN ?_ _ | refine blk_drew ?_ | refine blk_alloc ?_ _)); refine blk_put (cs := #[.int .i64 0, .slice none 0 0]) ?_ 0 _ rfl; (with_reducible repeat (first | refine blk_drewN ?_ _ | refine blk_drew ?_ | refine blk_alloc ?_ _)); exact BK784.out) hb); have n4_ := Aside0.mk (below_step BG hb); clear HO783; clear BK774; clear BK775; clear BK784; clear HB; have HO783 := n0_; have BK774 := n1_; have BK775 := n2_; have BK784 := n3_; have HB := n4_; clear n0_ n1_ n2_ n3_ n4_; (try clear hb); (try clear hb2); (try clear hk); (try clear hi)))
      go_meet
      case rel => exact ⟨_, (true), RS, H', ⟨by have := HJ2.out; first | omega | exact Nat.le_refl _⟩, ⟨by (with_reducible repeat (first | apply Kd.R_alloc | apply Kd.R_drewN | apply Kd.R_drew)); exact HO783.out⟩, ⟨by (with_reducible repeat (first | refine blk_drewN ?_ _ | refine blk_drew ?_ | refine blk_alloc ?_ _)); exact BK774.out⟩, ⟨by (with_reducible repeat (first | refine blk_drewN ?_ _ | refine blk_drew ?_ | refine blk_alloc ?_ _)); exact BK775.out⟩, ⟨by (with_reducible repeat (first | refine blk_drewN ?_ _ | refine blk_drew ?_ | refine blk_alloc ?_ _)); exact BK784.out⟩, ⟨by repeat (first | (with_reducible first | exact HB.out | apply below_alloc | apply pw_below_drewN | apply below_drew1 | refine below_set ?_ GE774.out | refine below_set ?_ GE775.out | refine below_set ?_ GE784.out) | exact HB.out)⟩⟩
     ·replace c31 := Bool.eq_false_iff.mpr c31
      subst c31
      replace H := IN H
      replace H := BS H
      obtain ⟨t786, A360, H⟩ := H
      have A36 := Aside0.mk A360
      clear A360
      have H' := Aside0.mk H
      clear H
      have hnb37 := NB774_775.out
      have hnc37 := NB775_774.out
      have hnb38 := NB774_784.out
      have hnc38 := NB784_774.out
      obtain ⟨hcz39_0, hcz39_1, hfz39_0, hfz39_1⟩ := bk2 BK774.out
      go_wp2_with (first | ((with_reducible refine gate_callee (f := 17) rfl ?_); refine goesL_ (some 26) rfl rfl Try.func17 (by kernel_rfl) rfl #[.agg #[.int .i64 a0_0, .slice A0_1 l0_1.length c0_1], .string a1] rfl AQ ?_; (with_reducible refine (impl_Has.calls kj2 a0_0 _ _ l0_1 a1 false _ ?side1 ?side2 A30.out).mono ?_); (case side1 => exact Kd.C_below HR0_1.out BG); (case side2 => exact HC0_1.out); rintro e w40 ⟨rfl, hb⟩; refine ⟨_, rfl, ?_⟩; have n0_ := Aside0.mk (Kd.R_below (by (with_reducible repeat (first | apply Kd.R_alloc | apply Kd.R_drewN | apply Kd.R_drew)); exact (FM (FR (FR (Kd.R_types HO783.out BK784.out (by decide)))))) hb); have n1_ := Aside0.mk (blk_below (g := gb774) (o := .cells #[.int .i64 a0_0, .slice A0_1 l0_1.length c0_1] 29 (0, 0)) (by (with_reducible repeat (first | refine blk_drewN ?_ _ | refine blk_drew ?_ | refine blk_alloc ?_ _)); refine blk_far ?_ NB774_784.out _; (with_reducible repeat (first | refine blk_drewN ?_ _ | refine blk_drew ?_ | refine blk_alloc ?_ _)); refine blk_far ?_ NB774_784.out _; (with_reducible repeat (first | refine blk_drewN ?_ _ | refine blk_drew ?_ | refine blk_alloc ?_ _)); exact BK774.out) hb); have n2_ := Aside0.mk (blk_below (g := gb775) (o := .cells #[.int .i64 0, .slice none 0 0] 29 (0, 0)) (by (with_reducible repeat (first | refine blk_drewN ?_ _ | refine blk_drew ?_ | refine blk_alloc ?_ _)); refine blk_far ?_ NB775_784.out _; (with_reducible repeat (first | refine blk_drewN ?_ _ | refine blk_drew ?_ | refine blk_alloc ?_ _)); refine blk_far ?_ NB775_784.out _; (with_reducible repeat (first | refine blk_drewN ?_ _ | refine blk_drew ?_ | refine blk_alloc ?_ _)); exact BK775.out) hb); have n3_ := Aside0.mk (blk_below (g := gb784) (o := .cells #[.int .i64 t780, .slice Ao28 t781.length co28] 29 (0, 0)) (by (with_reducible repeat (first | refine blk_drewN ?_ _ | refine blk_drew ?_ | refine blk_alloc ?_ _)); refine blk_put (cs := #[.int .i64 t780, .slice none 0 0]) ?_ 1 _ rfl; (with_reducible repeat (first | refine blk_drewN ?_ _ | refine blk_drew ?_ | refine blk_alloc ?_ _)); refine blk_put (cs := #[.int .i64 0, .slice none 0 0]) ?_ 0 _ rfl; (with_reducible repeat (first | refine blk_drewN ?_ _ | refine blk_drew ?_ | refine blk_alloc ?_ _)); exact BK784.out) hb); have n4_ := Aside0.mk (below_step BG hb); clear HO783; clear BK774; clear BK775; clear BK784; clear HB; have HO783 := n0_; have BK774 := n1_; have BK775 := n2_; have BK784 := n3_; have HB := n4_; clear n0_ n1_ n2_ n3_ n4_; (try clear hb); (try clear hb2); (try clear hk); (try clear hi); obtain ⟨hcz41_0, hcz41_1, hfz41_0, hfz41_1⟩ := bk2 BK774.out) | (go_at_call 45; (with_reducible refine (impl_Table_keysIn.calls kj2 a0_0 _ _ l0_1 t786 _ ?side1 ?side2 A36.out).mono ?_); (case side1 => exact SC HR0_1); (case side2 => exact HC0_1.out); rintro e w42 ⟨rfl, hb⟩; have n0_ := Aside0.mk (Kd.R_below (RD HO783) hb); have n1_ := Aside0.mk (blk_below (BD BK774) hb); have n2_ := Aside0.mk (blk_below (BD BK775) hb); have n3_ := Aside0.mk (blk_below (BD BK784) hb); have n4_ := Aside0.mk (below_step BG hb); clear HO783; clear BK774; clear BK775; clear BK784; clear HB; have HO783 := n0_; have BK774 := n1_; have BK775 := n2_; have BK784 := n3_; have HB := n4_; clear n0_ n1_ n2_ n3_ n4_; (try clear hb); (try clear hb2); (try clear hk); (try clear hi)))
      go_meet
      case rel => exact ⟨_, ((t786 == 200)), RS, H', ⟨by have := HJ2.out; first | omega | exact Nat.le_refl _⟩, ⟨by (with_reducible repeat (first | apply Kd.R_alloc | apply Kd.R_drewN | apply Kd.R_drew)); exact HO783.out⟩, ⟨by (with_reducible repeat (first | refine blk_drewN ?_ _ | refine blk_drew ?_ | refine blk_alloc ?_ _)); exact BK774.out⟩, ⟨by (with_reducible repeat (first | refine blk_drewN ?_ _ | refine blk_drew ?_ | refine blk_alloc ?_ _)); exact BK775.out⟩, ⟨by (with_reducible repeat (first | refine blk_drewN ?_ _ | refine blk_drew ?_ | refine blk_alloc ?_ _)); exact BK784.out⟩, ⟨by repeat (first | (with_reducible first | exact HB.out | apply below_alloc | apply pw_below_drewN | apply below_drew1 | refine below_set ?_ GE774.out | refine below_set ?_ GE775.out | refine below_set ?_ GE784.out) | exact HB.out)⟩⟩
    case rest =>
     clear HC22
     try clear c1
     try clear p2
     try clear c3
     try clear c6
     try clear c7
     try clear c9
     try clear c13
     try clear c14
     try clear c16
     try clear c17
     try clear c31
     try clear c32
     try clear c33
     try clear c37
     try clear c38
     try clear hcz10_0
     try clear hcz10_1
     try clear hcz14_0
     try clear hcz14_1
     try clear hcz18_0
     try clear hcz18_1
     try clear hcz34_0
     try clear hcz34_1
     try clear hcz39_0
     try clear hcz39_1
     try clear hcz41_0
     try clear hcz41_1
     try clear hfz10_0
     try clear hfz10_1
     try clear hfz14_0
     try clear hfz14_1
     try clear hfz18_0
     try clear hfz18_1
     try clear hfz34_0
     try clear hfz34_1
     try clear hfz39_0
     try clear hfz39_1
     try clear hfz41_0
     try clear hfz41_1
     try clear p2
     obtain ⟨kq, x31_21, rfl, HA, HJ21, HO_785001, BK774, BK775, BK784, HB⟩ := hcut
     cases kq with
     | zero => exact absurd HA.out (by simp [impl_Add.j1])
     | succ kj21 =>
      have H := HA.out
      clear HA
      simp only [impl_Add.j1] at H
      by_cases c43 : x31_21 = true
      ·subst c43
       replace H := IP H
       simp only [Option.some.injEq, Prod.mk.injEq] at H
       obtain ⟨rfl, rfl, rfl⟩ := H
       have hnb44 := NB784_774.out
       have hnc44 := NB774_784.out
       have hnb45 := NB784_775.out
       have hnc45 := NB775_784.out
       obtain ⟨hcz46_0, hcz46_1, hfz46_0, hfz46_1⟩ := bk2 BK784.out
       have hnb47 := NB775_774.out
       have hnc47 := NB774_775.out
       obtain ⟨hcz48_0, hcz48_1, hfz48_0, hfz48_1⟩ := bk2 BK775.out
       go_wp2
       refine bodyPost_ret (results_ct rfl _ _ gb775 29 #[.int .i64 t780, .slice Ao28 t781.length co28] (0, 0) _ rfl (by (with_reducible repeat (first | refine blk_drewN ?_ _ | refine blk_drew ?_ | refine blk_alloc ?_ _)); refine blk_put (cs := #[.int .i64 t780, .slice none 0 0]) ?_ 1 _ rfl; (with_reducible repeat (first | refine blk_drewN ?_ _ | refine blk_drew ?_ | refine blk_alloc ?_ _)); refine blk_put (cs := #[.int .i64 0, .slice none 0 0]) ?_ 0 _ rfl; (with_reducible repeat (first | refine blk_drewN ?_ _ | refine blk_drew ?_ | refine blk_alloc ?_ _)); exact BK775.out) Try.underlying29 rfl (by kernel_rfl)) rfl ?_
       exact ⟨_, by first | rfl | (simp [errW_none, errW_some] <;> rfl) | (simp [*, errW_none, errW_some] <;> rfl), by (with_reducible repeat (first | apply Kd.R_alloc | apply Kd.R_drewN | apply Kd.R_drew)); exact Kd.R_mono (FR (FR (Kd.R_types HO_785001.out BK775.out (by decide)))) (fun _ hk => trivial), BG⟩
      ·replace c43 := Bool.eq_false_iff.mpr c43
       subst c43
       replace H := IN H
       replace H := BS H
       obtain ⟨⟨t787, t788⟩, A490, H⟩ := H
       have A49 := Aside0.mk A490
       clear A490
       replace H := BS H
       obtain ⟨⟨t789, t790⟩, A500, H⟩ := H
       have A50 := Aside0.mk A500
       clear A500
       simp only [Option.some.injEq, Prod.mk.injEq] at H
       obtain ⟨rfl, rfl, rfl⟩ := H
       try go_wp2
       have n0_ := Aside0.mk (Kd.R_drew HO_785001.out)
       have n1_ := Aside0.mk (blk_drew BK774.out)
       have n2_ := Aside0.mk (blk_drew BK775.out)
       have n3_ := Aside0.mk (blk_drew BK784.out)
       have n4_ := Aside0.mk (below_drew1 HB.out)
       clear HO_785001
       clear BK774
       clear BK775
       clear BK784
       clear HB
       have HO_785001 := n0_
       have BK774 := n1_
       have BK775 := n2_
       have BK784 := n3_
       have HB := n4_
       clear n0_ n1_ n2_ n3_ n4_
       refine start_ (n := 6) (S := fun w' => w'.cell? ⟨gb784, 0, none⟩ = some (.int .i64 t780) ∧ w'.cell? ⟨gb784, 1, none⟩ = some (.slice Ao28 t781.length co28)) (ds := []) #[false, false, false, false, false, false] (by kernel_rfl) rfl rfl ⟨(blk_cell BK784.out 0).trans rfl, (blk_cell BK784.out 1).trans rfl⟩ (fun hHeld => ?_)
       generalize wc.drew = w51 at HO_785001 BK774 BK775 BK784 HB hHeld ⊢
       refine PV (i := 1) (N := some 34) #[false, true, false, false, false, false] rfl rfl ?_
       refine PK (i := 0) (N := some 33) (tf 2 4) rfl rfl hHeld ?_
       refine one_ (i := 2) (N := some 35) (tf 3 3) rfl rfl (by kernel_rfl) (by decide) (fun K hK => ?_)
       refine goes_ Try.func48 (by kernel_rfl) rfl #[.string a1] (by rfl) rfl rfl AQ ?_
       with_reducible refine (impl_entryOf.calls kj21 a1 t787 t788 _ A49.out).mono ?_
       rintro e w52 ⟨rfl, hb⟩
       refine ⟨_, rfl, ?_⟩
       have n0_ := Aside0.mk (Kd.R_below (RD HO_785001) hb)
       have n1_ := Aside0.mk (blk_below (BD BK774) hb)
       have n2_ := Aside0.mk (blk_below (BD BK775) hb)
       have n3_ := Aside0.mk (blk_below (BD BK784) hb)
       have n4_ := Aside0.mk (below_step BG hb)
       clear HO_785001
       clear BK774
       clear BK775
       clear BK784
       clear HB
       have HO_785001 := n0_
       have BK774 := n1_
       have BK775 := n2_
       have BK784 := n3_
       have HB := n4_
       clear n0_ n1_ n2_ n3_ n4_
       (try clear hb)
       (try clear hb2)
       (try clear hk)
       (try clear hi)
       refine hK.out _ _ ⟨(blk_cell BK784.out 0).trans rfl, (blk_cell BK784.out 1).trans rfl⟩ (fun hHeld => ?_)
       clear hK K
       refine NM (some 35) ?_
       refine one_ (i := 3) (N := some 36) (tf 4 2) rfl rfl (by kernel_rfl) (by decide) (fun K hK => ?_)
       refine goes_ Try.func68 (by kernel_rfl) rfl #[.agg #[.int .i64 t780, .slice Ao28 t781.length co28], .agg #[.int .i64 t787, .string t788]] (by rfl) rfl rfl AQ ?_
       with_reducible refine (impl_Table_with.calls kj21 t780 _ _ t781 t787 t788 t789 t790 _ ?side1 ?side2 A50.out).mono ?_
       (case side1 => exact SR HO_785001)
       (case side2 => exact (Kd.R_reads' HO_785001.out).2.1)
       rintro e w53 ⟨v791, rfl, ho0, hb⟩
       refine ⟨_, rfl, ?_⟩
       have n0_ := Aside0.mk (Kd.R_elder' (RD HO_785001) (Kd.R_base ho0) hb)
       have n1_ := Aside0.mk (Kd.R_lower (Kd.R_new' ho0 (Kd.R_lt (RD HO_785001))) (below_size BG))
       have n2_ := Aside0.mk (blk_below (BD BK774) hb)
       have n3_ := Aside0.mk (blk_below (BD BK775) hb)
       have n4_ := Aside0.mk (blk_below (BD BK784) hb)
       have n5_ := Aside0.mk (below_step BG hb)
       clear HO_785001
       clear BK774
       clear BK775
       clear BK784
       clear HB
       have HO_785001 := n0_
       have HO792 := n1_
       have BK774 := n2_
       have BK775 := n3_
       have BK784 := n4_
       have HB := n5_
       clear n0_ n1_ n2_ n3_ n4_ n5_
       (try clear hb)
       (try clear hb2)
       (try clear hk)
       (try clear hi)
       (try clear ho0)
       obtain ⟨Ao55, co55, eo55⟩ := Kd.R_slice HO792.out
       (first | subst eo55 | (injection eo55 with f1_ f2_ f3_; have f4_ := f1_.symm; have f5_ := f3_.symm; clear f1_ f2_ f3_; subst f4_; subst f5_))
       refine hK.out _ _ ⟨(blk_cell BK784.out 0).trans rfl, (blk_cell BK784.out 1).trans rfl⟩ (fun hHeld => ?_)
       clear hK K
       refine NM (some 36) ?_
       refine one_ (i := 4) (N := none) (tf 5 1) rfl rfl (by kernel_rfl) (by decide) (fun K hK => ?_)
       have hs54 : w53.cell? ⟨gb775, 0, none⟩ = some (.int .i64 0) := (blk_cell BK775.out 0).trans rfl
       have hfs54 := blk_frozen BK775.out 0
       have hns54_0 := NB774_775.out
       have hns54_2 := NB784_775.out
       have hms54_0 := NB775_774.out
       have hms54_2 := NB775_784.out
       have hs56 : w53.cell? ⟨gb775, 1, none⟩ = some (.slice none 0 0) := (blk_cell BK775.out 1).trans rfl
       have hfs56 := blk_frozen BK775.out 1
       have hns56_0 := NB774_775.out
       have hns56_2 := NB784_775.out
       have hms56_0 := NB775_774.out
       have hms56_2 := NB775_784.out
       refine skip_ (w1 := ?_) (by rfl) rfl ?_ ?_
       rotate_left
       ·go_simp
        rfl
       refine hK.out _ _ ⟨((cell_far (p := ⟨gb775, _, none⟩) NB784_775.out _).trans (((cell_far (p := ⟨gb775, _, none⟩) NB784_775.out _).trans (hHeld.1)))), ((cell_far (p := ⟨gb775, _, none⟩) NB784_775.out _).trans (((cell_far (p := ⟨gb775, _, none⟩) NB784_775.out _).trans (hHeld.2))))⟩ (fun hHeld => ?_)
       clear hK K
       refine PV (i := 5) (N := some 5) (tf 6 0) rfl rfl ?_
       refine done_ (by kernel_rfl) ?_
       try go_wp2
       refine bodyPost_ret (results_ct rfl _ _ gb775 29 #[.int .i64 t789, .slice Ao55 t790.length co55] (0, 0) _ rfl (by (with_reducible repeat (first | refine blk_drewN ?_ _ | refine blk_drew ?_ | refine blk_alloc ?_ _)); refine blk_put (cs := #[.int .i64 t789, .slice none 0 0]) ?_ 1 _ rfl; (with_reducible repeat (first | refine blk_drewN ?_ _ | refine blk_drew ?_ | refine blk_alloc ?_ _)); refine blk_put (cs := #[.int .i64 0, .slice none 0 0]) ?_ 0 _ rfl; (with_reducible repeat (first | refine blk_drewN ?_ _ | refine blk_drew ?_ | refine blk_alloc ?_ _)); exact BK775.out) Try.underlying29 rfl (by kernel_rfl)) rfl ?_
       exact ⟨_, by first | rfl | (simp [errW_none, errW_some] <;> rfl) | (simp [*, errW_none, errW_some] <;> rfl), by (with_reducible repeat (first | apply Kd.R_alloc | apply Kd.R_drewN | apply Kd.R_drew)); exact Kd.R_mono (FR (FR (Kd.R_types HO792.out BK775.out (by decide)))) (fun _ hk => trivial), BG⟩
end Go.Proofs.Ytcdflbbohnjegaa.G
