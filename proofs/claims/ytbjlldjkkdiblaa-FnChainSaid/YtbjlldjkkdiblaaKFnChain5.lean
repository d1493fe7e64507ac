/- Part 5 of the claim FnChain, merged by pack.py (this session's program) out of: the print's words, cut to what is needed; texts that gen.py printed (it runs the kit's print in place); texts of this session. -/
import Derived.Deep.RegionLaw
import Derived.RegionTactic
import Derived.Test.YtbjlldjkkdiblaaKFnChain1
import Derived.Test.YtbjlldjkkdiblaaKFnChain3
import Derived.Test.YtbjlldjkkdiblaaKFnChain4
namespace Go.Proofs.Ytbjlldjkkdiblaa.Man
end Go.Proofs.Ytbjlldjkkdiblaa.Man
namespace Go.Proofs.Ytbjlldjkkdiblaa.Sh
end Go.Proofs.Ytbjlldjkkdiblaa.Sh
namespace Go.Proofs.Ytbjlldjkkdiblaa.G
open Go.RowKit Go.Proofs.YtbjlldjkkdiblaaW.PrintWords Go.Proofs.YtbjlldjkkdiblaaW.PrintLast Go.Proofs.YtbjlldjkkdiblaaW.PrintMore Go.Proofs.Ytbjlldjkkdiblaa.Sh
attribute [local go_sem] max2_int min2_int max_two min_two max_three min_three max_four min_four
set_option linter.unusedVariables false
set_option linter.unusedSimpArgs false
mutual
def laws_FnChain.l0 : Nat → List ByteArray → Int → Int → List (S49) → Option (Bool)
 | 0, _, _, _, _ => none
 | k + 1, x4, x5, x666000, x666001 => if x5 < x666000 then ((impl_Open.f k x666000 x666001 x5).bind fun bt669 => (if bt669.2.2 = true then ((impl_Keys.f k bt669.1 bt669.2.1).bind fun t675 => ((laws_sameTexts.f k t675 x4).bind fun t678 => (if t678 = true then (laws_FnChain.l0 k x4 (wrap64 (x5 + 1)) bt669.1 bt669.2.1) else (none)))) else (none))) else (laws_FnChain.l1 k x4 0 0 x666000 x666001)
def laws_FnChain.l1 : Nat → List ByteArray → Int → Int → Int → List (S49) → Option (Bool)
 | 0, _, _, _, _, _ => none
 | k + 1, x4, x8, x9, x666000, x666001 => if x9 < x666000 then ((impl_Chain.f k x666000 x666001 x9).bind fun t689 => (laws_FnChain.l2 k x4 (wrap64 (x8 + (t689.length : Int))) x9 t689 (t689.length : Int) 0 x666000 x666001)) else ((impl_Open.f k x666000 x666001 x666000).bind fun bt679 => (if x8 = (x4.length : Int) then ((spec_Keys.f k x666000 x666001).bind fun t685 => (if x8 = (t685.length : Int) then ((impl_TableOk.f k x666000 x666001).bind fun t688 => (if t688 = true then (some (!bt679.2.2)) else (none))) else (none))) else (none)))
def laws_FnChain.l2 : Nat → List ByteArray → Int → Int → List ByteArray → Int → Int → Int → List (S49) → Option (Bool)
 | 0, _, _, _, _, _, _, _, _ => none
 | k + 1, x4, x8, x9, x57, x58, x59, x666000, x666001 => if x59 < x58 then (if 0 ≤ x59 then (if x59 < (x57.length : Int) then ((impl_Hash.f k (rdOf ByteArray.empty x57 x59)).bind fun t693 => ((impl_Bucket.f t693 x666000).bind fun t694 => (if t694 = x9 then (laws_FnChain.l2 k x4 x8 x9 x57 x58 (wrap64 (x59 + 1)) x666000 x666001) else (none)))) else (none)) else (none)) else (laws_FnChain.l1 k x4 x8 (wrap64 (x9 + 1)) x666000 x666001)
end
def laws_FnChain.f (k : Nat) (l0 : List Int) : Option (Bool) := if (l0.length : Int) > 1048576 then (some true) else ((spec_MakeTable.f k l0).bind fun bt661 => ((impl_Keys.f k bt661.1 bt661.2).bind fun t666 => (laws_FnChain.l0 k t666 0 bt661.1 bt661.2)))
theorem laws_FnChain.mono_l : ∀ k, (∀ y0 y1 y2 y3, LeO (laws_FnChain.l0 k y0 y1 y2 y3) (laws_FnChain.l0 (k + 1) y0 y1 y2 y3)) ∧ (∀ y0 y1 y2 y3 y4, LeO (laws_FnChain.l1 k y0 y1 y2 y3 y4) (laws_FnChain.l1 (k + 1) y0 y1 y2 y3 y4)) ∧ (∀ y0 y1 y2 y3 y4 y5 y6 y7, LeO (laws_FnChain.l2 k y0 y1 y2 y3 y4 y5 y6 y7) (laws_FnChain.l2 (k + 1) y0 y1 y2 y3 y4 y5 y6 y7))
 | 0 => ⟨fun _ _ _ _ r h => by simp [laws_FnChain.l0] at h, fun _ _ _ _ _ r h => by simp [laws_FnChain.l1] at h, fun _ _ _ _ _ _ _ _ r h => by simp [laws_FnChain.l2] at h⟩
 | k + 1 => by
  obtain ⟨ih0, ih1, ih2⟩ := laws_FnChain.mono_l k
  refine ⟨?_, ?_, ?_⟩
  ·intro y0 y1 y2 y3
   unfold laws_FnChain.l0
   repeat' first | (with_reducible first | exact ih0 _ _ _ _ | exact ih1 _ _ _ _ _ | exact ih2 _ _ _ _ _ _ _ _ | exact impl_Chain.mono _ _ _ _ | exact impl_Hash.mono _ _ | exact impl_Keys.mono _ _ _ | exact impl_Open.mono _ _ _ _ | exact impl_TableOk.mono _ _ _ | exact laws_sameTexts.mono _ _ _ | exact spec_Keys.mono _ _ _ | exact spec_MakeTable.mono _ _ | exact LeO.refl _ | exact LeO.none _ | refine LeO.ite ?_ ?_ | refine LeO.bind ?_ (fun _ => ?_)) | exact ih0 _ _ _ _ | exact ih1 _ _ _ _ _ | exact ih2 _ _ _ _ _ _ _ _ | exact impl_Chain.mono _ _ _ _ | exact impl_Hash.mono _ _ | exact impl_Keys.mono _ _ _ | exact impl_Open.mono _ _ _ _ | exact impl_TableOk.mono _ _ _ | exact laws_sameTexts.mono _ _ _ | exact spec_Keys.mono _ _ _ | exact spec_MakeTable.mono _ _ | exact LeO.none _ | refine LeO.ite ?_ ?_ | refine LeO.bind ?_ (fun _ => ?_)
  ·intro y0 y1 y2 y3 y4
   unfold laws_FnChain.l1
   repeat' first | (with_reducible first | exact ih0 _ _ _ _ | exact ih1 _ _ _ _ _ | exact ih2 _ _ _ _ _ _ _ _ | exact impl_Chain.mono _ _ _ _ | exact impl_Hash.mono _ _ | exact impl_Keys.mono _ _ _ | exact impl_Open.mono _ _ _ _ | exact impl_TableOk.mono _ _ _ | exact laws_sameTexts.mono _ _ _ | exact spec_Keys.mono _ _ _ | exact spec_MakeTable.mono _ _ | exact LeO.refl _ | exact LeO.none _ | refine LeO.ite ?_ ?_ | refine LeO.bind ?_ (fun _ => ?_)) | exact ih0 _ _ _ _ | exact ih1 _ _ _ _ _ | exact ih2 _ _ _ _ _ _ _ _ | exact impl_Chain.mono _ _ _ _ | exact impl_Hash.mono _ _ | exact impl_Keys.mono _ _ _ | exact impl_Open.mono _ _ _ _ | exact impl_TableOk.mono _ _ _ | exact laws_sameTexts.mono _ _ _ | exact spec_Keys.mono _ _ _ | exact spec_MakeTable.mono _ _ | exact LeO.none _ | refine LeO.ite ?_ ?_ | refine LeO.bind ?_ (fun _ => ?_)
  ·intro y0 y1 y2 y3 y4 y5 y6 y7
   unfold laws_FnChain.l2
   repeat' first | (with_reducible first | exact ih0 _ _ _ _ | exact ih1 _ _ _ _ _ | exact ih2 _ _ _ _ _ _ _ _ | exact impl_Chain.mono _ _ _ _ | exact impl_Hash.mono _ _ | exact impl_Keys.mono _ _ _ | exact impl_Open.mono _ _ _ _ | exact impl_TableOk.mono _ _ _ | exact laws_sameTexts.mono _ _ _ | exact spec_Keys.mono _ _ _ | exact spec_MakeTable.mono _ _ | exact LeO.refl _ | exact LeO.none _ | refine LeO.ite ?_ ?_ | refine LeO.bind ?_ (fun _ => ?_)) | exact ih0 _ _ _ _ | exact ih1 _ _ _ _ _ | exact ih2 _ _ _ _ _ _ _ _ | exact impl_Chain.mono _ _ _ _ | exact impl_Hash.mono _ _ | exact impl_Keys.mono _ _ _ | exact impl_Open.mono _ _ _ _ | exact impl_TableOk.mono _ _ _ | exact laws_sameTexts.mono _ _ _ | exact spec_Keys.mono _ _ _ | exact spec_MakeTable.mono _ _ | exact LeO.none _ | refine LeO.ite ?_ ?_ | refine LeO.bind ?_ (fun _ => ?_)
theorem laws_FnChain.mono : ∀ a0 k, LeO (laws_FnChain.f k a0) (laws_FnChain.f (k + 1) a0) := by
 intro a0 k
 obtain ⟨ih0, ih1, ih2⟩ := laws_FnChain.mono_l k
 unfold laws_FnChain.f
 repeat' first | (with_reducible first | exact ih0 _ _ _ _ | exact ih1 _ _ _ _ _ | exact ih2 _ _ _ _ _ _ _ _ | exact impl_Chain.mono _ _ _ _ | exact impl_Hash.mono _ _ | exact impl_Keys.mono _ _ _ | exact impl_Open.mono _ _ _ _ | exact impl_TableOk.mono _ _ _ | exact laws_sameTexts.mono _ _ _ | exact spec_Keys.mono _ _ _ | exact spec_MakeTable.mono _ _ | exact LeO.refl _ | exact LeO.none _ | refine LeO.ite ?_ ?_ | refine LeO.bind ?_ (fun _ => ?_)) | exact ih0 _ _ _ _ | exact ih1 _ _ _ _ _ | exact ih2 _ _ _ _ _ _ _ _ | exact impl_Chain.mono _ _ _ _ | exact impl_Hash.mono _ _ | exact impl_Keys.mono _ _ _ | exact impl_Open.mono _ _ _ _ | exact impl_TableOk.mono _ _ _ | exact laws_sameTexts.mono _ _ _ | exact spec_Keys.mono _ _ _ | exact spec_MakeTable.mono _ _ | exact LeO.none _ | refine LeO.ite ?_ ?_ | refine LeO.bind ?_ (fun _ => ?_)
theorem laws_FnChain.z0 {P : Prop} (h : P := by repeat (first | (with_reducible first | exact HB.out | apply below_alloc | apply pw_below_drewN | apply below_drew1 | refine below_set ?_ GE665.out) | exact HB.out)) : P := h
theorem laws_FnChain.z1 {P : Prop} (h : P := by refine PX ?_; refine blk_put (cs := #[.int .i64 t661, .slice none 0 0]) ?_ 1 _ rfl; refine PX ?_; refine blk_put (cs := #[.int .i64 0, .slice none 0 0]) ?_ 0 _ rfl; exact BD BK665) : P := h
theorem laws_FnChain.z2 {P : Prop} (h : P := by refine PX ?_; refine blk_put (cs := #[.int .i64 t669, .slice none 0 0]) ?_ 1 _ rfl; refine PX ?_; refine blk_put (cs := #[.int .i64 0, .slice none 0 0]) ?_ 0 _ rfl; exact BD BK674) : P := h
theorem laws_FnChain.z3 {P : Prop} (h : P := by refine PX ?_; refine blk_put (cs := #[.int .i64 t679, .slice none 0 0]) ?_ 1 _ rfl; refine PX ?_; refine blk_put (cs := #[.int .i64 0, .slice none 0 0]) ?_ 0 _ rfl; exact BD BK684) : P := h
theorem laws_FnChain.z4 {P : Prop} (h : P := by refine PRx ?_; exact (FM (FR (FR (Kd.R_types HO_666001.out BK684.out (by decide)))))) : P := h
theorem laws_FnChain.z5 {P : Prop} (h : P := by refine PRx ?_; exact (FM (FR (FR (Kd.R_types HO664.out BK665.out (by decide)))))) : P := h
theorem laws_FnChain.z6 {P : Prop} (h : P := by refine PRx ?_; exact (FM (FR (FR (Kd.R_types HO672.out BK674.out (by decide)))))) : P := h
theorem laws_FnChain.z7 {P : Prop} (h : P := by refine PRx ?_; exact (FM (FR (FR (Kd.R_types HO_4.out BK674.out (by decide)))))) : P := h
theorem laws_FnChain.z8 {P : Prop} (h : P := by refine PRx ?_; exact (FM (FR (FR (Kd.R_types HO_4.out BK684.out (by decide)))))) : P := h
theorem laws_FnChain.z9 {P : Prop} (h : P := by refine PX ?_; refine blk_far ?_ NB665_674.out _; refine PX ?_; refine blk_far ?_ NB665_674.out _; exact BD BK665) : P := h
theorem laws_FnChain.z10 {P : Prop} (h : P := by refine PX ?_; refine blk_far ?_ NB665_684.out _; refine PX ?_; refine blk_far ?_ NB665_684.out _; exact BD BK665) : P := h
theorem laws_FnChain.z11 {P : Prop} (h : P := by rw [hg]; exact Nat.ne_of_lt (blk_lt (BD BK665))) : P := h
theorem laws_FnChain.z12 {P : Prop} (h : P := by rw [hg]; exact Nat.ne_of_gt (blk_lt (BD BK665))) : P := h
theorem laws_FnChain.z13 {P : Prop} (h : P := by refine PRx ?_; exact (FM (FR (FR (Kd.R_types HO_666001.out BK674.out (by decide)))))) : P := h
theorem laws_FnChain.z14 {P : Prop} (h : P := by refine PRx ?_; exact (FM (FR (FR (Kd.R_types HO682.out BK684.out (by decide)))))) : P := h
set_option maxHeartbeats 8000000 in
set_option maxRecDepth 100000 in
theorem laws_FnChain.calls (k : Nat) (A0 : Option Addr) (c0 : Nat) (l0 : List Int) (r : Bool) (w : World) (hr0 : Kd.C (Kd.int .u8) w A0 l0.length l0) (hc0 : l0.length ≤ c0) (h : laws_FnChain.f k l0 = some r) :
  Calls Try.prog 4 #[.slice A0 l0.length c0] w fun e w' => e = .returned (.bool r) ∧ Below w.heap.size w w' := by
 have hu25 := Try.underlying25
 have HR0 := Aside0.mk hr0
 have HC0 := Aside0.mk hc0
 clear hr0 hc0
 have HB := Aside0.mk (Below.refl w.heap.size w)
 have H : (if (l0.length : Int) > 1048576 then (some true) else ((spec_MakeTable.f k l0).bind fun bt661 => ((impl_Keys.f k bt661.1 bt661.2).bind fun t666 => (laws_FnChain.l0 k t666 0 bt661.1 bt661.2)))) = some r := h
 clear h
 by_cases c2 : (l0.length : Int) > 1048576
 ·rw [if_pos c2] at H
  have c2b0 : decide (1048576 < (l0.length : Int)) = true := decide_eq_true c2
  have c2b1 : decide (1048576 < l0.length) = true := decide_eq_true (by omega)
  clear c2
  obtain rfl := Option.some.inj H
  go_enter Try.func4, Try.ntmps4
  go_wp2
  repeat (go_quiet (fail); try go_wp2)
  go_ret
  exact ⟨ER, BL⟩
 ·rw [if_neg c2] at H
  have c2b0 : decide (1048576 < (l0.length : Int)) = false := decide_eq_false c2
  have c2b1 : decide (1048576 < l0.length) = false := decide_eq_false (by omega)
  clear c2
  replace H := BS H
  obtain ⟨⟨t661, t662⟩, A30, H⟩ := H
  have A3 := Aside0.mk A30
  clear A30
  replace H := BS H
  obtain ⟨t666, A40, H⟩ := H
  have A4 := Aside0.mk A40
  clear A40
  have H' := Aside0.mk H
  clear H
  go_enter Try.func4, Try.ntmps4
  go_wp2_with (first | (go_at_call 5; (with_reducible refine (spec_MakeTable.calls k _ _ l0 t661 t662 _ ?side1 ?side2 A3.out).mono ?_); (case side1 => repeat (first | exact HR0.out | (with_reducible refine Kd.C_alloc ?_ _) | (with_reducible refine Kd.C_drewN ?_ _) | (with_reducible refine Kd.C_drew ?_))); (case side2 => exact HC0.out); rintro e w5 ⟨v663, rfl, ho0, hb⟩; have n_ : _ ∧ _ := ⟨AsM (Kd.R_lower ho0 (below_size BL)), AsM (below_step BL hb)⟩; clear HB; obtain ⟨HO664, HB⟩ := n_; (try clear hb); (try clear hb2); (try clear hk); (try clear hi); (try clear ho0)) | ((with_reducible refine gate_dst (N := 3) rfl ?_); (try (refine gate_guard (by rfl) ?_; dsimp only)); refine box_event ?hg (N := 3) ?hd (cs := #[.int .i64 0, .slice none 0 0]) (t := 25) ?hr ?_; (case hd => rfl); (case hg => rfl); (case hr => first | (go_simp; done) | (go_simp; rfl)); intro gb665 hg w6 hbox hb; have n_ : _ ∧ _ ∧ _ ∧ _ ∧ _ := ⟨AsM (Kd.R_below (RD HO664) hb), AsM (below_step BL hb), AsM (hbox), AsM ((GL : w.heap.size ≤ gb665)), AsM ((GL : w.heap.size ≤ gb665))⟩; clear HO664 HB; obtain ⟨HO664, HB, BK665, GW665, GE665⟩ := n_; clear hb hbox hg; obtain ⟨hcz7_0, hcz7_1, hfz7_0, hfz7_1⟩ := bk2 BK665.out; obtain ⟨Ao8, co8, eo8⟩ := Kd.R_slice HO664.out; subst eo8) | (go_at_call 6; (with_reducible refine (impl_Keys.calls k t661 _ _ t662 t666 _ ?side1 ?side2 A4.out).mono ?_); (case side1 => refine (Kd.R_reads' (e := 49) (base := w.heap.size) (ok := fun k_ => True) (n := t662.length) (c := co8) ?_).2.2; exact (laws_FnChain.z5)); (case side2 => exact (Kd.R_reads' HO664.out).2.1); rintro e w9 ⟨v667, rfl, ho0, hb⟩; have n_ : _ ∧ _ ∧ _ ∧ _ := ⟨AsM (Kd.R_below (laws_FnChain.z5) hb), AsM (Kd.R_lower ho0 (below_size BG)), AsM (blk_below (g := gb665) (o := .cells #[.int .i64 t661, .slice Ao8 t662.length co8] 25 (0, 0)) (laws_FnChain.z1) hb), AsM (below_step BG hb)⟩; clear HO664 BK665 HB; obtain ⟨HO664, HO668, BK665, HB⟩ := n_; (try clear hb); (try clear hb2); (try clear hk); (try clear hi); (try clear ho0)))
  repeat (go_quiet (first | (go_at_call 5; (with_reducible refine (spec_MakeTable.calls k _ _ l0 t661 t662 _ ?side1 ?side2 A3.out).mono ?_); (case side1 => repeat (first | exact HR0.out | (with_reducible refine Kd.C_alloc ?_ _) | (with_reducible refine Kd.C_drewN ?_ _) | (with_reducible refine Kd.C_drew ?_))); (case side2 => exact HC0.out); rintro e w5 ⟨v663, rfl, ho0, hb⟩; have n_ : _ ∧ _ := ⟨AsM (Kd.R_lower ho0 (below_size BL)), AsM (below_step BL hb)⟩; clear HB; obtain ⟨HO664, HB⟩ := n_; (try clear hb); (try clear hb2); (try clear hk); (try clear hi); (try clear ho0)) | ((with_reducible refine gate_dst (N := 3) rfl ?_); (try (refine gate_guard (by rfl) ?_; dsimp only)); refine box_event ?hg (N := 3) ?hd (cs := #[.int .i64 0, .slice none 0 0]) (t := 25) ?hr ?_; (case hd => rfl); (case hg => rfl); (case hr => first | (go_simp; done) | (go_simp; rfl)); intro gb665 hg w6 hbox hb; have n_ : _ ∧ _ ∧ _ ∧ _ ∧ _ := ⟨AsM (Kd.R_below (RD HO664) hb), AsM (below_step BL hb), AsM (hbox), AsM ((GL : w.heap.size ≤ gb665)), AsM ((GL : w.heap.size ≤ gb665))⟩; clear HO664 HB; obtain ⟨HO664, HB, BK665, GW665, GE665⟩ := n_; clear hb hbox hg; obtain ⟨hcz7_0, hcz7_1, hfz7_0, hfz7_1⟩ := bk2 BK665.out; obtain ⟨Ao8, co8, eo8⟩ := Kd.R_slice HO664.out; subst eo8) | (go_at_call 6; (with_reducible refine (impl_Keys.calls k t661 _ _ t662 t666 _ ?side1 ?side2 A4.out).mono ?_); (case side1 => refine (Kd.R_reads' (e := 49) (base := w.heap.size) (ok := fun k_ => True) (n := t662.length) (c := co8) ?_).2.2; exact (laws_FnChain.z5)); (case side2 => exact (Kd.R_reads' HO664.out).2.1); rintro e w9 ⟨v667, rfl, ho0, hb⟩; have n_ : _ ∧ _ ∧ _ ∧ _ := ⟨AsM (Kd.R_below (laws_FnChain.z5) hb), AsM (Kd.R_lower ho0 (below_size BG)), AsM (blk_below (g := gb665) (o := .cells #[.int .i64 t661, .slice Ao8 t662.length co8] 25 (0, 0)) (laws_FnChain.z1) hb), AsM (below_step BG hb)⟩; clear HO664 BK665 HB; obtain ⟨HO664, HO668, BK665, HB⟩ := n_; (try clear hb); (try clear hb2); (try clear hk); (try clear hi); (try clear ho0))); try go_wp2_with (first | (go_at_call 5; (with_reducible refine (spec_MakeTable.calls k _ _ l0 t661 t662 _ ?side1 ?side2 A3.out).mono ?_); (case side1 => repeat (first | exact HR0.out | (with_reducible refine Kd.C_alloc ?_ _) | (with_reducible refine Kd.C_drewN ?_ _) | (with_reducible refine Kd.C_drew ?_))); (case side2 => exact HC0.out); rintro e w5 ⟨v663, rfl, ho0, hb⟩; have n_ : _ ∧ _ := ⟨AsM (Kd.R_lower ho0 (below_size BL)), AsM (below_step BL hb)⟩; clear HB; obtain ⟨HO664, HB⟩ := n_; (try clear hb); (try clear hb2); (try clear hk); (try clear hi); (try clear ho0)) | ((with_reducible refine gate_dst (N := 3) rfl ?_); (try (refine gate_guard (by rfl) ?_; dsimp only)); refine box_event ?hg (N := 3) ?hd (cs := #[.int .i64 0, .slice none 0 0]) (t := 25) ?hr ?_; (case hd => rfl); (case hg => rfl); (case hr => first | (go_simp; done) | (go_simp; rfl)); intro gb665 hg w6 hbox hb; have n_ : _ ∧ _ ∧ _ ∧ _ ∧ _ := ⟨AsM (Kd.R_below (RD HO664) hb), AsM (below_step BL hb), AsM (hbox), AsM ((GL : w.heap.size ≤ gb665)), AsM ((GL : w.heap.size ≤ gb665))⟩; clear HO664 HB; obtain ⟨HO664, HB, BK665, GW665, GE665⟩ := n_; clear hb hbox hg; obtain ⟨hcz7_0, hcz7_1, hfz7_0, hfz7_1⟩ := bk2 BK665.out; obtain ⟨Ao8, co8, eo8⟩ := Kd.R_slice HO664.out; subst eo8) | (go_at_call 6; (with_reducible refine (impl_Keys.calls k t661 _ _ t662 t666 _ ?side1 ?side2 A4.out).mono ?_); (case side1 => refine (Kd.R_reads' (e := 49) (base := w.heap.size) (ok := fun k_ => True) (n := t662.length) (c := co8) ?_).2.2; exact (laws_FnChain.z5)); (case side2 => exact (Kd.R_reads' HO664.out).2.1); rintro e w9 ⟨v667, rfl, ho0, hb⟩; have n_ : _ ∧ _ ∧ _ ∧ _ := ⟨AsM (Kd.R_below (laws_FnChain.z5) hb), AsM (Kd.R_lower ho0 (below_size BG)), AsM (blk_below (g := gb665) (o := .cells #[.int .i64 t661, .slice Ao8 t662.length co8] 25 (0, 0)) (laws_FnChain.z1) hb), AsM (below_step BG hb)⟩; clear HO664 BK665 HB; obtain ⟨HO664, HO668, BK665, HB⟩ := n_; (try clear hb); (try clear hb2); (try clear hk); (try clear hi); (try clear ho0))))
  go_loopg [5] k (fun kq v5 w' => ∃ (x5_1 : Int) (x666000_1 : Int) (x666001_1 : List (S49)) (u666001 : Value), v5 = .int .i64 x5_1 ∧ Aside0 (laws_FnChain.l0 kq t666 x5_1 x666000_1 x666001_1 = some r) ∧ Aside0 (kq ≤ k) ∧ Aside0 (Kd.R Kd.string 9 w' w.heap.size (fun _ => True) v667 t666) ∧ Aside0 (Kd.R k49 49 w' w.heap.size (fun _ => True) u666001 x666001_1) ∧ Aside0 (w'.heap[gb665]? = some (.cells #[.int .i64 x666000_1, u666001] 25 (0, 0))) ∧ Aside0 (Below w.heap.size w w'))
  case atStart => exact ⟨(0), (t661), (t662), (.slice Ao8 t662.length co8), RS, H', ⟨Nat.le_refl _⟩, ⟨RD HO668⟩, ⟨RD HO664⟩, ⟨BD BK665⟩, ⟨laws_FnChain.z0⟩⟩
  case round =>
   clear H'
   try clear c2
   try clear c2b0
   try clear c2b1
   try clear p2
   try clear c4
   try clear hcz7_0
   try clear hcz7_1
   try clear hfz7_0
   try clear hfz7_1
   obtain ⟨x5_1, x666000_1, x666001_1, u666001, rfl, HA, HK1, HO_4, HO_666001, BK665, HB⟩ := hrel
   cases gk with
   | zero => exact absurd HA.out (by simp [laws_FnChain.l0])
   | succ k1 =>
    have H := HA.out
    clear HA
    simp only [laws_FnChain.l0] at H
    by_cases c10 : x5_1 < x666000_1
    ·rw [if_pos c10] at H
     have c10b0 : decide (x5_1 < x666000_1) = true := decide_eq_true c10
     clear c10
     replace H := BS H
     obtain ⟨⟨t669, t670, t673⟩, A110, H⟩ := H
     have A11 := Aside0.mk A110
     clear A110
     by_cases c12 : t673 = true
     ·subst c12
      replace H := IP H
      replace H := BS H
      obtain ⟨t675, A130, H⟩ := H
      have A13 := Aside0.mk A130
      clear A130
      replace H := BS H
      obtain ⟨t678, A140, H⟩ := H
      have A14 := Aside0.mk A140
      clear A140
      by_cases c15 : t678 = true
      ·subst c15
       replace H := IP H
       have H' := Aside0.mk H
       clear H
       obtain ⟨hcz16_0, hcz16_1, hfz16_0, hfz16_1⟩ := bk2 BK665.out
       obtain ⟨Ao17, co17, eo17⟩ := Kd.R_slice HO_666001.out
       subst eo17
       go_wp2_with (first | (go_at_call 16; (with_reducible refine (impl_Open.calls k1 x666000_1 _ _ x666001_1 x5_1 t669 t670 true _ ?side1 ?side2 A11.out).mono ?_); (case side1 => exact SR HO_666001); (case side2 => exact (Kd.R_reads' HO_666001.out).2.1); rintro e w18 ⟨v671, rfl, ho0, hb⟩; have n_ : _ ∧ _ ∧ _ ∧ _ ∧ _ := ⟨AsM (Kd.R_below (RD HO_4) hb), AsM (Kd.R_elder' (RD HO_666001) (Kd.R_base ho0) hb), AsM (Kd.R_lower (Kd.R_new' ho0 (Kd.R_lt (RD HO_666001))) (below_size BG)), AsM (blk_below (BD BK665) hb), AsM (below_step BG hb)⟩; clear HO_4 HO_666001 BK665 HB; obtain ⟨HO_4, HO_666001, HO672, BK665, HB⟩ := n_; (try clear hb); (try clear hb2); (try clear hk); (try clear hi); (try clear ho0)) | ((with_reducible refine gate_dst (N := 6) rfl ?_); (try (refine gate_guard (by rfl) ?_; dsimp only)); refine box_event ?hg (N := 6) ?hd (cs := #[.int .i64 0, .slice none 0 0]) (t := 25) ?hr ?_; (case hd => rfl); (case hg => rfl); (case hr => first | (go_simp; done) | (go_simp; rfl)); intro gb674 hg w19 hbox hb; have n_ : _ ∧ _ ∧ _ ∧ _ ∧ _ ∧ _ ∧ _ ∧ _ ∧ _ ∧ _ := ⟨AsM (Kd.R_below (RD HO_4) hb), AsM (Kd.R_below (RD HO_666001) hb), AsM (Kd.R_below (RD HO672) hb), AsM (blk_below (BD BK665) hb), AsM (below_step BG hb), AsM (hbox), AsM ((GM : w.heap.size ≤ gb674)), AsM ((GM : w.heap.size ≤ gb674)), AsM ((laws_FnChain.z11 : gb665 ≠ gb674)), AsM ((laws_FnChain.z12 : gb674 ≠ gb665))⟩; clear HO_4 HO_666001 HO672 BK665 HB; obtain ⟨HO_4, HO_666001, HO672, BK665, HB, BK674, GW674, GE674, NB665_674, NB674_665⟩ := n_; clear hb hbox hg; have hnb20 := NB674_665.out; have hnc20 := NB665_674.out; obtain ⟨hcz21_0, hcz21_1, hfz21_0, hfz21_1⟩ := bk2 BK674.out; obtain ⟨Ao22, co22, eo22⟩ := Kd.R_slice HO672.out; subst eo22) | (go_at_call 6; (with_reducible refine (impl_Keys.calls k1 t669 _ _ t670 t675 _ ?side1 ?side2 A13.out).mono ?_); (case side1 => refine (Kd.R_reads' (e := 49) (base := w.heap.size) (ok := fun k_ => (True ∧ some k_ ≠ (.slice Ao17 x666001_1.length co17 : Value).ownBlock)) (n := t670.length) (c := co22) ?_).2.2; exact (laws_FnChain.z6)); (case side2 => exact (Kd.R_reads' HO672.out).2.1); rintro e w23 ⟨v676, rfl, ho0, hb⟩; have n_ : _ ∧ _ ∧ _ ∧ _ ∧ _ ∧ _ ∧ _ := ⟨AsM (Kd.R_elder' (laws_FnChain.z7) (Kd.R_base ho0) hb), AsM (Kd.R_below (laws_FnChain.z13) hb), AsM (Kd.R_below (laws_FnChain.z6) hb), AsM (Kd.R_lower (Kd.R_new' ho0 (Kd.R_lt (laws_FnChain.z7))) (below_size BG)), AsM (blk_below (g := gb665) (o := .cells #[.int .i64 x666000_1, .slice Ao17 x666001_1.length co17] 25 (0, 0)) (laws_FnChain.z9) hb), AsM (blk_below (g := gb674) (o := .cells #[.int .i64 t669, .slice Ao22 t670.length co22] 25 (0, 0)) (laws_FnChain.z2) hb), AsM (below_step BG hb)⟩; clear HO_4 HO_666001 HO672 BK665 BK674 HB; obtain ⟨HO_4, HO_666001, HO672, HO677, BK665, BK674, HB⟩ := n_; (try clear hb); (try clear hb2); (try clear hk); (try clear hi); (try clear ho0); obtain ⟨Ao24, co24, eo24⟩ := Kd.R_slice HO677.out; subst eo24; obtain ⟨Ao25, co25, eo25⟩ := Kd.R_slice HO_4.out; subst eo25) | (go_at_call 15; (with_reducible refine (laws_sameTexts.calls k1 _ _ t675 _ _ t666 true _ ?side1 ?side2 ?side3 ?side4 A14.out).mono ?_); (case side1 => exact SR HO677); (case side2 => exact (Kd.R_reads' HO677.out).2.1); (case side3 => exact SR HO_4); (case side4 => exact (Kd.R_reads' HO_4.out).2.1); rintro e w' ⟨rfl, ⟨nd, rfl⟩⟩; (try first | exact ⟨rfl, _, World.drewN_drewN _ _ _⟩ | exact ⟨rfl, _, Eq.trans (World.drewN_drewN _ _ _) (congrArg (World.drewN _) (Nat.add_assoc _ _ _))⟩); obtain ⟨hcz26_0, hcz26_1, hfz26_0, hfz26_1⟩ := bk2 BK674.out; obtain ⟨hcz27_0, hcz27_1, hfz27_0, hfz27_1⟩ := bk2 BK665.out))
       repeat (go_quiet (first | (go_at_call 16; (with_reducible refine (impl_Open.calls k1 x666000_1 _ _ x666001_1 x5_1 t669 t670 true _ ?side1 ?side2 A11.out).mono ?_); (case side1 => exact SR HO_666001); (case side2 => exact (Kd.R_reads' HO_666001.out).2.1); rintro e w18 ⟨v671, rfl, ho0, hb⟩; have n_ : _ ∧ _ ∧ _ ∧ _ ∧ _ := ⟨AsM (Kd.R_below (RD HO_4) hb), AsM (Kd.R_elder' (RD HO_666001) (Kd.R_base ho0) hb), AsM (Kd.R_lower (Kd.R_new' ho0 (Kd.R_lt (RD HO_666001))) (below_size BG)), AsM (blk_below (BD BK665) hb), AsM (below_step BG hb)⟩; clear HO_4 HO_666001 BK665 HB; obtain ⟨HO_4, HO_666001, HO672, BK665, HB⟩ := n_; (try clear hb); (try clear hb2); (try clear hk); (try clear hi); (try clear ho0)) | ((with_reducible refine gate_dst (N := 6) rfl ?_); (try (refine gate_guard (by rfl) ?_; dsimp only)); refine box_event ?hg (N := 6) ?hd (cs := #[.int .i64 0, .slice none 0 0]) (t := 25) ?hr ?_; (case hd => rfl); (case hg => rfl); (case hr => first | (go_simp; done) | (go_simp; rfl)); intro gb674 hg w19 hbox hb; have n_ : _ ∧ _ ∧ _ ∧ _ ∧ _ ∧ _ ∧ _ ∧ _ ∧ _ ∧ _ := ⟨AsM (Kd.R_below (RD HO_4) hb), AsM (Kd.R_below (RD HO_666001) hb), AsM (Kd.R_below (RD HO672) hb), AsM (blk_below (BD BK665) hb), AsM (below_step BG hb), AsM (hbox), AsM ((GM : w.heap.size ≤ gb674)), AsM ((GM : w.heap.size ≤ gb674)), AsM ((laws_FnChain.z11 : gb665 ≠ gb674)), AsM ((laws_FnChain.z12 : gb674 ≠ gb665))⟩; clear HO_4 HO_666001 HO672 BK665 HB; obtain ⟨HO_4, HO_666001, HO672, BK665, HB, BK674, GW674, GE674, NB665_674, NB674_665⟩ := n_; clear hb hbox hg; have hnb20 := NB674_665.out; have hnc20 := NB665_674.out; obtain ⟨hcz21_0, hcz21_1, hfz21_0, hfz21_1⟩ := bk2 BK674.out; obtain ⟨Ao22, co22, eo22⟩ := Kd.R_slice HO672.out; subst eo22) | (go_at_call 6; (with_reducible refine (impl_Keys.calls k1 t669 _ _ t670 t675 _ ?side1 ?side2 A13.out).mono ?_); (case side1 => refine (Kd.R_reads' (e := 49) (base := w.heap.size) (ok := fun k_ => (True ∧ some k_ ≠ (.slice Ao17 x666001_1.length co17 : Value).ownBlock)) (n := t670.length) (c := co22) ?_).2.2; exact (laws_FnChain.z6)); (case side2 => exact (Kd.R_reads' HO672.out).2.1); rintro e w23 ⟨v676, rfl, ho0, hb⟩; have n_ : _ ∧ _ ∧ _ ∧ _ ∧ _ ∧ _ ∧ _ := ⟨AsM (Kd.R_elder' (laws_FnChain.z7) (Kd.R_base ho0) hb), AsM (Kd.R_below (laws_FnChain.z13) hb), AsM (Kd.R_below (laws_FnChain.z6) hb), AsM (Kd.R_lower (Kd.R_new' ho0 (Kd.R_lt (laws_FnChain.z7))) (below_size BG)), AsM (blk_below (g := gb665) (o := .cells #[.int .i64 x666000_1, .slice Ao17 x666001_1.length co17] 25 (0, 0)) (laws_FnChain.z9) hb), AsM (blk_below (g := gb674) (o := .cells #[.int .i64 t669, .slice Ao22 t670.length co22] 25 (0, 0)) (laws_FnChain.z2) hb), AsM (below_step BG hb)⟩; clear HO_4 HO_666001 HO672 BK665 BK674 HB; obtain ⟨HO_4, HO_666001, HO672, HO677, BK665, BK674, HB⟩ := n_; (try clear hb); (try clear hb2); (try clear hk); (try clear hi); (try clear ho0); obtain ⟨Ao24, co24, eo24⟩ := Kd.R_slice HO677.out; subst eo24; obtain ⟨Ao25, co25, eo25⟩ := Kd.R_slice HO_4.out; subst eo25) | (go_at_call 15; (with_reducible refine (laws_sameTexts.calls k1 _ _ t675 _ _ t666 true _ ?side1 ?side2 ?side3 ?side4 A14.out).mono ?_); (case side1 => exact SR HO677); (case side2 => exact (Kd.R_reads' HO677.out).2.1); (case side3 => exact SR HO_4); (case side4 => exact (Kd.R_reads' HO_4.out).2.1); rintro e w' ⟨rfl, ⟨nd, rfl⟩⟩; (try first | exact ⟨rfl, _, World.drewN_drewN _ _ _⟩ | exact ⟨rfl, _, Eq.trans (World.drewN_drewN _ _ _) (congrArg (World.drewN _) (Nat.add_assoc _ _ _))⟩); obtain ⟨hcz26_0, hcz26_1, hfz26_0, hfz26_1⟩ := bk2 BK674.out; obtain ⟨hcz27_0, hcz27_1, hfz27_0, hfz27_1⟩ := bk2 BK665.out)); try go_wp2_with (first | (go_at_call 16; (with_reducible refine (impl_Open.calls k1 x666000_1 _ _ x666001_1 x5_1 t669 t670 true _ ?side1 ?side2 A11.out).mono ?_); (case side1 => exact SR HO_666001); (case side2 => exact (Kd.R_reads' HO_666001.out).2.1); rintro e w18 ⟨v671, rfl, ho0, hb⟩; have n_ : _ ∧ _ ∧ _ ∧ _ ∧ _ := ⟨AsM (Kd.R_below (RD HO_4) hb), AsM (Kd.R_elder' (RD HO_666001) (Kd.R_base ho0) hb), AsM (Kd.R_lower (Kd.R_new' ho0 (Kd.R_lt (RD HO_666001))) (below_size BG)), AsM (blk_below (BD BK665) hb), AsM (below_step BG hb)⟩; clear HO_4 HO_666001 BK665 HB; obtain ⟨HO_4, HO_666001, HO672, BK665, HB⟩ := n_; (try clear hb); (try clear hb2); (try clear hk); (try clear hi); (try clear ho0)) | ((with_reducible refine gate_dst (N := 6) rfl ?_); (try (refine gate_guard (by rfl) ?_; dsimp only)); refine box_event ?hg (N := 6) ?hd (cs := #[.int .i64 0, .slice none 0 0]) (t := 25) ?hr ?_; (case hd => rfl); (case hg => rfl); (case hr => first | (go_simp; done) | (go_simp; rfl)); intro gb674 hg w19 hbox hb; have n_ : _ ∧ _ ∧ _ ∧ _ ∧ _ ∧ _ ∧ _ ∧ _ ∧ _ ∧ _ := ⟨AsM (Kd.R_below (RD HO_4) hb), AsM (Kd.R_below (RD HO_666001) hb), AsM (Kd.R_below (RD HO672) hb), AsM (blk_below (BD BK665) hb), AsM (below_step BG hb), AsM (hbox), AsM ((GM : w.heap.size ≤ gb674)), AsM ((GM : w.heap.size ≤ gb674)), AsM ((laws_FnChain.z11 : gb665 ≠ gb674)), AsM ((laws_FnChain.z12 : gb674 ≠ gb665))⟩; clear HO_4 HO_666001 HO672 BK665 HB; obtain ⟨HO_4, HO_666001, HO672, BK665, HB, BK674, GW674, GE674, NB665_674, NB674_665⟩ := n_; clear hb hbox hg; have hnb20 := NB674_665.out; have hnc20 := NB665_674.out; obtain ⟨hcz21_0, hcz21_1, hfz21_0, hfz21_1⟩ := bk2 BK674.out; obtain ⟨Ao22, co22, eo22⟩ := Kd.R_slice HO672.out; subst eo22) | (go_at_call 6; (with_reducible refine (impl_Keys.calls k1 t669 _ _ t670 t675 _ ?side1 ?side2 A13.out).mono ?_); (case side1 => refine (Kd.R_reads' (e := 49) (base := w.heap.size) (ok := fun k_ => (True ∧ some k_ ≠ (.slice Ao17 x666001_1.length co17 : Value).ownBlock)) (n := t670.length) (c := co22) ?_).2.2; exact (laws_FnChain.z6)); (case side2 => exact (Kd.R_reads' HO672.out).2.1); rintro e w23 ⟨v676, rfl, ho0, hb⟩; have n_ : _ ∧ _ ∧ _ ∧ _ ∧ _ ∧ _ ∧ _ := ⟨AsM (Kd.R_elder' (laws_FnChain.z7) (Kd.R_base ho0) hb), AsM (Kd.R_below (laws_FnChain.z13) hb), AsM (Kd.R_below (laws_FnChain.z6) hb), AsM (Kd.R_lower (Kd.R_new' ho0 (Kd.R_lt (laws_FnChain.z7))) (below_size BG)), AsM (blk_below (g := gb665) (o := .cells #[.int .i64 x666000_1, .slice Ao17 x666001_1.length co17] 25 (0, 0)) (laws_FnChain.z9) hb), AsM (blk_below (g := gb674) (o := .cells #[.int .i64 t669, .slice Ao22 t670.length co22] 25 (0, 0)) (laws_FnChain.z2) hb), AsM (below_step BG hb)⟩; clear HO_4 HO_666001 HO672 BK665 BK674 HB; obtain ⟨HO_4, HO_666001, HO672, HO677, BK665, BK674, HB⟩ := n_; (try clear hb); (try clear hb2); (try clear hk); (try clear hi); (try clear ho0); obtain ⟨Ao24, co24, eo24⟩ := Kd.R_slice HO677.out; subst eo24; obtain ⟨Ao25, co25, eo25⟩ := Kd.R_slice HO_4.out; subst eo25) | (go_at_call 15; (with_reducible refine (laws_sameTexts.calls k1 _ _ t675 _ _ t666 true _ ?side1 ?side2 ?side3 ?side4 A14.out).mono ?_); (case side1 => exact SR HO677); (case side2 => exact (Kd.R_reads' HO677.out).2.1); (case side3 => exact SR HO_4); (case side4 => exact (Kd.R_reads' HO_4.out).2.1); rintro e w' ⟨rfl, ⟨nd, rfl⟩⟩; (try first | exact ⟨rfl, _, World.drewN_drewN _ _ _⟩ | exact ⟨rfl, _, Eq.trans (World.drewN_drewN _ _ _) (congrArg (World.drewN _) (Nat.add_assoc _ _ _))⟩); obtain ⟨hcz26_0, hcz26_1, hfz26_0, hfz26_1⟩ := bk2 BK674.out; obtain ⟨hcz27_0, hcz27_1, hfz27_0, hfz27_1⟩ := bk2 BK665.out)))
       go_roundg k1
       case measure => have := HK1.out; omega
       case rel => exact ⟨(wrap64 (x5_1 + 1)), (t669), (t670), (.slice Ao22 t670.length co22), RS, H', ⟨by have := HK1.out; omega⟩, ⟨by refine PRx ?_; exact Kd.R_mono (FR (FR (Kd.R_types HO_4.out BK665.out (by decide)))) (fun _ hk => trivial)⟩, ⟨by refine PRx ?_; exact Kd.R_mono (FR (FR (Kd.R_types HO672.out BK665.out (by decide)))) (fun _ hk => trivial)⟩, ⟨by refine PX ?_; refine blk_put (cs := #[.int .i64 t669, .slice Ao17 x666001_1.length co17]) ?_ 1 _ rfl; refine PX ?_; refine blk_put (cs := #[.int .i64 x666000_1, .slice Ao17 x666001_1.length co17]) ?_ 0 _ rfl; exact BD BK665⟩, ⟨by repeat (first | (with_reducible first | exact HB.out | apply below_alloc | apply pw_below_drewN | apply below_drew1 | refine below_set ?_ GE665.out | refine below_set ?_ GE674.out) | exact HB.out)⟩⟩
      ·replace c15 := Bool.eq_false_iff.mpr c15
       subst c15
       replace H := IN H
       exact absurd H (by simp)
     ·replace c12 := Bool.eq_false_iff.mpr c12
      subst c12
      replace H := IN H
      exact absurd H (by simp)
    ·rw [if_neg c10] at H
     have c10b0 : decide (x5_1 < x666000_1) = false := decide_eq_false c10
     clear c10
     have H' := Aside0.mk H
     clear H
     obtain ⟨hcz28_0, hcz28_1, hfz28_0, hfz28_1⟩ := bk2 BK665.out
     go_wp2
     repeat (go_quiet (fail); try go_wp2)
     go_loopg [8, 9] k1 (fun kq v8 v9 w' => ∃ (x8_2 : Int) (x9_2 : Int), v8 = .int .i64 x8_2 ∧ v9 = .int .i64 x9_2 ∧ Aside0 (laws_FnChain.l1 kq t666 x8_2 x9_2 x666000_1 x666001_1 = some r) ∧ Aside0 (kq ≤ k1) ∧ Aside0 (Kd.R Kd.string 9 w' w.heap.size (fun _ => True) v667 t666) ∧ Aside0 (Kd.R k49 49 w' w.heap.size (fun _ => True) u666001 x666001_1) ∧ Aside0 (w'.heap[gb665]? = some (.cells #[.int .i64 x666000_1, u666001] 25 (0, 0))) ∧ Aside0 (Below w.heap.size w w'))
     case atStart => exact ⟨(0), (0), RS, RS, H', ⟨Nat.le_refl _⟩, ⟨RD HO_4⟩, ⟨RD HO_666001⟩, ⟨BD BK665⟩, ⟨laws_FnChain.z0⟩⟩
     case round =>
      clear H'
      try clear c1
      try clear c2
      try clear c2b0
      try clear c2b1
      try clear p2
      try clear c4
      try clear p6
      try clear c10
      try clear c10b0
      try clear c12
      try clear c15
      try clear c20
      try clear hcz16_0
      try clear hcz16_1
      try clear hcz21_0
      try clear hcz21_1
      try clear hcz26_0
      try clear hcz26_1
      try clear hcz27_0
      try clear hcz27_1
      try clear hcz28_0
      try clear hcz28_1
      try clear hcz7_0
      try clear hcz7_1
      try clear hfz16_0
      try clear hfz16_1
      try clear hfz21_0
      try clear hfz21_1
      try clear hfz26_0
      try clear hfz26_1
      try clear hfz27_0
      try clear hfz27_1
      try clear hfz28_0
      try clear hfz28_1
      try clear hfz7_0
      try clear hfz7_1
      try clear p2
      obtain ⟨x8_2, x9_2, rfl, rfl, HA, HK2, HO_4, HO_666001, BK665, HB⟩ := hrel
      cases gk with
      | zero => exact absurd HA.out (by simp [laws_FnChain.l1])
      | succ k2 =>
       have H := HA.out
       clear HA
       simp only [laws_FnChain.l1] at H
       by_cases c29 : x9_2 < x666000_1
       ·rw [if_pos c29] at H
        have c29b0 : decide (x9_2 < x666000_1) = true := decide_eq_true c29
        clear c29
        replace H := BS H
        obtain ⟨t689, A300, H⟩ := H
        have A30 := Aside0.mk A300
        clear A300
        have H' := Aside0.mk H
        clear H
        obtain ⟨hcz31_0, hcz31_1, hfz31_0, hfz31_1⟩ := bk2 BK665.out
        obtain ⟨Ao32, co32, eo32⟩ := Kd.R_slice HO_666001.out
        subst eo32
        go_wp2_with (first | (go_at_call 17; (with_reducible refine (impl_Chain.calls k2 x666000_1 _ _ x666001_1 x9_2 t689 _ ?side1 ?side2 A30.out).mono ?_); (case side1 => exact SR HO_666001); (case side2 => exact (Kd.R_reads' HO_666001.out).2.1); rintro e w33 ⟨v690, rfl, ho0, hb⟩; have n_ : _ ∧ _ ∧ _ ∧ _ ∧ _ := ⟨AsM (Kd.R_elder' (RD HO_4) (Kd.R_base ho0) hb), AsM (Kd.R_below (RD HO_666001) hb), AsM (Kd.R_lower (Kd.R_new' ho0 (Kd.R_lt (RD HO_4))) (below_size BG)), AsM (blk_below (BD BK665) hb), AsM (below_step BG hb)⟩; clear HO_4 HO_666001 BK665 HB; obtain ⟨HO_4, HO_666001, HO691, BK665, HB⟩ := n_; (try clear hb); (try clear hb2); (try clear hk); (try clear hi); (try clear ho0); obtain ⟨Ao34, co34, eo34⟩ := Kd.R_slice HO691.out; subst eo34))
        repeat (go_quiet (first | (go_at_call 17; (with_reducible refine (impl_Chain.calls k2 x666000_1 _ _ x666001_1 x9_2 t689 _ ?side1 ?side2 A30.out).mono ?_); (case side1 => exact SR HO_666001); (case side2 => exact (Kd.R_reads' HO_666001.out).2.1); rintro e w33 ⟨v690, rfl, ho0, hb⟩; have n_ : _ ∧ _ ∧ _ ∧ _ ∧ _ := ⟨AsM (Kd.R_elder' (RD HO_4) (Kd.R_base ho0) hb), AsM (Kd.R_below (RD HO_666001) hb), AsM (Kd.R_lower (Kd.R_new' ho0 (Kd.R_lt (RD HO_4))) (below_size BG)), AsM (blk_below (BD BK665) hb), AsM (below_step BG hb)⟩; clear HO_4 HO_666001 BK665 HB; obtain ⟨HO_4, HO_666001, HO691, BK665, HB⟩ := n_; (try clear hb); (try clear hb2); (try clear hk); (try clear hi); (try clear ho0); obtain ⟨Ao34, co34, eo34⟩ := Kd.R_slice HO691.out; subst eo34)); try go_wp2_with (first | (go_at_call 17; (with_reducible refine (impl_Chain.calls k2 x666000_1 _ _ x666001_1 x9_2 t689 _ ?side1 ?side2 A30.out).mono ?_); (case side1 => exact SR HO_666001); (case side2 => exact (Kd.R_reads' HO_666001.out).2.1); rintro e w33 ⟨v690, rfl, ho0, hb⟩; have n_ : _ ∧ _ ∧ _ ∧ _ ∧ _ := ⟨AsM (Kd.R_elder' (RD HO_4) (Kd.R_base ho0) hb), AsM (Kd.R_below (RD HO_666001) hb), AsM (Kd.R_lower (Kd.R_new' ho0 (Kd.R_lt (RD HO_4))) (below_size BG)), AsM (blk_below (BD BK665) hb), AsM (below_step BG hb)⟩; clear HO_4 HO_666001 BK665 HB; obtain ⟨HO_4, HO_666001, HO691, BK665, HB⟩ := n_; (try clear hb); (try clear hb2); (try clear hk); (try clear hi); (try clear ho0); obtain ⟨Ao34, co34, eo34⟩ := Kd.R_slice HO691.out; subst eo34)))
        go_loopg [59] k2 (fun kq v59 w' => ∃ (x59_3 : Int), v59 = .int .i64 x59_3 ∧ Aside0 (laws_FnChain.l2 kq t666 (wrap64 (x8_2 + (t689.length : Int))) x9_2 t689 (t689.length : Int) x59_3 x666000_1 x666001_1 = some r) ∧ Aside0 (kq ≤ k2) ∧ Aside0 (Kd.R Kd.string 9 w' w.heap.size (fun k_ => some k_ ≠ ((.slice Ao34 t689.length co34) : Value).ownBlock) v667 t666) ∧ Aside0 (Kd.R Kd.string 9 w' w.heap.size (fun k_ => some k_ ≠ (v667 : Value).ownBlock) (.slice Ao34 t689.length co34) t689) ∧ Aside0 (Kd.R k49 49 w' w.heap.size (fun _ => True) (.slice Ao32 x666001_1.length co32) x666001_1) ∧ Aside0 (w'.heap[gb665]? = some (.cells #[.int .i64 x666000_1, (.slice Ao32 x666001_1.length co32)] 25 (0, 0))) ∧ Aside0 (Below w.heap.size w w'))
        case atStart => exact ⟨(0), RS, H', ⟨Nat.le_refl _⟩, ⟨by refine PRx ?_; exact Kd.R_mono HO_4.out (fun _ hk => hk.2)⟩, ⟨by refine PRx ?_; exact Kd.R_mono HO691.out (fun _ hk => hk.2)⟩, ⟨RD HO_666001⟩, ⟨BD BK665⟩, ⟨laws_FnChain.z0⟩⟩
        case round =>
         clear H'
         try clear c1
         try clear c2
         try clear c2b0
         try clear c2b1
         try clear p2
         try clear c4
         try clear p6
         try clear c10
         try clear c10b0
         try clear c12
         try clear c15
         try clear c20
         try clear c29
         try clear c29b0
         try clear hcz16_0
         try clear hcz16_1
         try clear hcz21_0
         try clear hcz21_1
         try clear hcz26_0
         try clear hcz26_1
         try clear hcz27_0
         try clear hcz27_1
         try clear hcz28_0
         try clear hcz28_1
         try clear hcz31_0
         try clear hcz31_1
         try clear hcz7_0
         try clear hcz7_1
         try clear hfz16_0
         try clear hfz16_1
         try clear hfz21_0
         try clear hfz21_1
         try clear hfz26_0
         try clear hfz26_1
         try clear hfz27_0
         try clear hfz27_1
         try clear hfz28_0
         try clear hfz28_1
         try clear hfz31_0
         try clear hfz31_1
         try clear hfz7_0
         try clear hfz7_1
         try clear p2
         try clear p6
         obtain ⟨x59_3, rfl, HA, HK3, HO_4, HO_57, HO_666001, BK665, HB⟩ := hrel
         cases gk with
         | zero => exact absurd HA.out (by simp [laws_FnChain.l2])
         | succ k3 =>
          have H := HA.out
          clear HA
          simp only [laws_FnChain.l2] at H
          by_cases c35 : x59_3 < (t689.length : Int)
          ·rw [if_pos c35] at H
           have c35b0 : decide (x59_3 < (t689.length : Int)) = true := decide_eq_true c35
           clear c35
           by_cases c36 : 0 ≤ x59_3
           ·rw [if_pos c36] at H
            have c36b0 : decide (0 ≤ x59_3) = true := decide_eq_true c36
            clear c36
            by_cases c37 : x59_3 < (t689.length : Int)
            ·rw [if_pos c37] at H
             have c37b0 : decide (x59_3 < (t689.length : Int)) = true := decide_eq_true c37
             clear c37
             replace H := BS H
             obtain ⟨t693, A380, H⟩ := H
             have A38 := Aside0.mk A380
             clear A380
             replace H := BS H
             obtain ⟨t694, A390, H⟩ := H
             have A39 := Aside0.mk A390
             clear A390
             by_cases c40 : t694 = x9_2
             ·rw [if_pos c40] at H
              have c40b0 : (t694 == x9_2) = true := beq_iff_eq.mpr c40
              have c40b1 : (t694 != x9_2) = false := bne_eq_false_iff_eq.mpr c40
              clear c40
              have H' := Aside0.mk H
              clear H
              have p692 : 0 ≤ (x59_3 : Int) := of_decide_eq_true AS
              have q692 : x59_3 < (t689.length : Int) := of_decide_eq_true AS
              obtain ⟨ad692, e692, hx692_0⟩ := Kd.at_string (Kd.R_reads' HO_57.out).2.2 x59_3 p692 q692
              cases e692
              replace p692 := eq_true p692
              replace q692 := eq_true q692
              go_wp2_with (first | (go_at_call 19; (with_reducible refine (impl_Hash.calls k3 (rdOf ByteArray.empty t689 x59_3) t693 _ A38.out).mono ?_); rintro e w' ⟨rfl, ⟨nd, rfl⟩⟩; (try first | exact ⟨rfl, _, World.drewN_drewN _ _ _⟩ | exact ⟨rfl, _, Eq.trans (World.drewN_drewN _ _ _) (congrArg (World.drewN _) (Nat.add_assoc _ _ _))⟩); obtain ⟨hcz41_0, hcz41_1, hfz41_0, hfz41_1⟩ := bk2 BK665.out) | (go_at_call 18; (with_reducible refine (impl_Bucket.calls t693 x666000_1 t694 _ A39.out).mono ?_); rintro e w' ⟨rfl, ⟨nd, rfl⟩⟩; (try first | exact ⟨rfl, _, World.drewN_drewN _ _ _⟩ | exact ⟨rfl, _, Eq.trans (World.drewN_drewN _ _ _) (congrArg (World.drewN _) (Nat.add_assoc _ _ _))⟩)))
              repeat (go_quiet (first | (go_at_call 19; (with_reducible refine (impl_Hash.calls k3 (rdOf ByteArray.empty t689 x59_3) t693 _ A38.out).mono ?_); rintro e w' ⟨rfl, ⟨nd, rfl⟩⟩; (try first | exact ⟨rfl, _, World.drewN_drewN _ _ _⟩ | exact ⟨rfl, _, Eq.trans (World.drewN_drewN _ _ _) (congrArg (World.drewN _) (Nat.add_assoc _ _ _))⟩); obtain ⟨hcz41_0, hcz41_1, hfz41_0, hfz41_1⟩ := bk2 BK665.out) | (go_at_call 18; (with_reducible refine (impl_Bucket.calls t693 x666000_1 t694 _ A39.out).mono ?_); rintro e w' ⟨rfl, ⟨nd, rfl⟩⟩; (try first | exact ⟨rfl, _, World.drewN_drewN _ _ _⟩ | exact ⟨rfl, _, Eq.trans (World.drewN_drewN _ _ _) (congrArg (World.drewN _) (Nat.add_assoc _ _ _))⟩))); try go_wp2_with (first | (go_at_call 19; (with_reducible refine (impl_Hash.calls k3 (rdOf ByteArray.empty t689 x59_3) t693 _ A38.out).mono ?_); rintro e w' ⟨rfl, ⟨nd, rfl⟩⟩; (try first | exact ⟨rfl, _, World.drewN_drewN _ _ _⟩ | exact ⟨rfl, _, Eq.trans (World.drewN_drewN _ _ _) (congrArg (World.drewN _) (Nat.add_assoc _ _ _))⟩); obtain ⟨hcz41_0, hcz41_1, hfz41_0, hfz41_1⟩ := bk2 BK665.out) | (go_at_call 18; (with_reducible refine (impl_Bucket.calls t693 x666000_1 t694 _ A39.out).mono ?_); rintro e w' ⟨rfl, ⟨nd, rfl⟩⟩; (try first | exact ⟨rfl, _, World.drewN_drewN _ _ _⟩ | exact ⟨rfl, _, Eq.trans (World.drewN_drewN _ _ _) (congrArg (World.drewN _) (Nat.add_assoc _ _ _))⟩))))
              go_roundg k3
              case measure => have := HK1.out; have := HK2.out; have := HK3.out; omega
              case rel => exact ⟨(wrap64 (x59_3 + 1)), RS, H', ⟨by have := HK1.out; have := HK2.out; have := HK3.out; omega⟩, ⟨RD HO_4⟩, ⟨RD HO_57⟩, ⟨RD HO_666001⟩, ⟨BD BK665⟩, ⟨laws_FnChain.z0⟩⟩
             ·rw [if_neg c40] at H
              exact absurd H (by simp)
            ·rw [if_neg c37] at H
             exact absurd H (by simp)
           ·rw [if_neg c36] at H
            exact absurd H (by simp)
          ·rw [if_neg c35] at H
           have c35b0 : decide (x59_3 < (t689.length : Int)) = false := decide_eq_false c35
           clear c35
           have H' := Aside0.mk H
           clear H
           go_wp2
           repeat (go_quiet (fail); try go_wp2)
           go_roundg k3
           case measure => have := HK1.out; have := HK2.out; have := HK3.out; omega
           case rel => exact ⟨((wrap64 (x8_2 + (t689.length : Int)))), (wrap64 (x9_2 + 1)), RS, RS, H', ⟨by have := HK1.out; have := HK2.out; have := HK3.out; omega⟩, ⟨by refine PRx ?_; exact Kd.R_mono HO_4.out (fun _ hk => trivial)⟩, ⟨RD HO_666001⟩, ⟨BD BK665⟩, ⟨laws_FnChain.z0⟩⟩
       ·rw [if_neg c29] at H
        have c29b0 : decide (x9_2 < x666000_1) = false := decide_eq_false c29
        clear c29
        replace H := BS H
        obtain ⟨⟨t679, t680, t683⟩, A420, H⟩ := H
        have A42 := Aside0.mk A420
        clear A420
        by_cases c43 : x8_2 = (t666.length : Int)
        ·rw [if_pos c43] at H
         have c43b0 : (x8_2 == (t666.length : Int)) = true := beq_iff_eq.mpr c43
         have c43b1 : (x8_2 != (t666.length : Int)) = false := bne_eq_false_iff_eq.mpr c43
         clear c43
         replace H := BS H
         obtain ⟨t685, A440, H⟩ := H
         have A44 := Aside0.mk A440
         clear A440
         by_cases c45 : x8_2 = (t685.length : Int)
         ·rw [if_pos c45] at H
          have c45b0 : (x8_2 == (t685.length : Int)) = true := beq_iff_eq.mpr c45
          have c45b1 : (x8_2 != (t685.length : Int)) = false := bne_eq_false_iff_eq.mpr c45
          clear c45
          replace H := BS H
          obtain ⟨t688, A460, H⟩ := H
          have A46 := Aside0.mk A460
          clear A460
          by_cases c47 : t688 = true
          ·subst c47
           replace H := IP H
           obtain rfl := Option.some.inj H
           obtain ⟨hcz48_0, hcz48_1, hfz48_0, hfz48_1⟩ := bk2 BK665.out
           obtain ⟨Ao49, co49, eo49⟩ := Kd.R_slice HO_666001.out
           subst eo49
           go_wp2_with (first | (go_at_call 16; (with_reducible refine (impl_Open.calls k2 x666000_1 _ _ x666001_1 x666000_1 t679 t680 t683 _ ?side1 ?side2 A42.out).mono ?_); (case side1 => exact SR HO_666001); (case side2 => exact (Kd.R_reads' HO_666001.out).2.1); rintro e w50 ⟨v681, rfl, ho0, hb⟩; have n_ : _ ∧ _ ∧ _ ∧ _ ∧ _ := ⟨AsM (Kd.R_below (RD HO_4) hb), AsM (Kd.R_elder' (RD HO_666001) (Kd.R_base ho0) hb), AsM (Kd.R_lower (Kd.R_new' ho0 (Kd.R_lt (RD HO_666001))) (below_size BG)), AsM (blk_below (BD BK665) hb), AsM (below_step BG hb)⟩; clear HO_4 HO_666001 BK665 HB; obtain ⟨HO_4, HO_666001, HO682, BK665, HB⟩ := n_; (try clear hb); (try clear hb2); (try clear hk); (try clear hi); (try clear ho0)) | ((with_reducible refine gate_dst (N := 13) rfl ?_); (try (refine gate_guard (by rfl) ?_; dsimp only)); refine box_event ?hg (N := 13) ?hd (cs := #[.int .i64 0, .slice none 0 0]) (t := 25) ?hr ?_; (case hd => rfl); (case hg => rfl); (case hr => first | (go_simp; done) | (go_simp; rfl)); intro gb684 hg w51 hbox hb; have n_ : _ ∧ _ ∧ _ ∧ _ ∧ _ ∧ _ ∧ _ ∧ _ ∧ _ ∧ _ := ⟨AsM (Kd.R_below (RD HO_4) hb), AsM (Kd.R_below (RD HO_666001) hb), AsM (Kd.R_below (RD HO682) hb), AsM (blk_below (BD BK665) hb), AsM (below_step BG hb), AsM (hbox), AsM ((GM : w.heap.size ≤ gb684)), AsM ((GM : w.heap.size ≤ gb684)), AsM ((laws_FnChain.z11 : gb665 ≠ gb684)), AsM ((laws_FnChain.z12 : gb684 ≠ gb665))⟩; clear HO_4 HO_666001 HO682 BK665 HB; obtain ⟨HO_4, HO_666001, HO682, BK665, HB, BK684, GW684, GE684, NB665_684, NB684_665⟩ := n_; clear hb hbox hg; have hnb52 := NB684_665.out; have hnc52 := NB665_684.out; obtain ⟨hcz53_0, hcz53_1, hfz53_0, hfz53_1⟩ := bk2 BK684.out; obtain ⟨Ao54, co54, eo54⟩ := Kd.R_slice HO682.out; subst eo54; obtain ⟨Ao55, co55, eo55⟩ := Kd.R_slice HO_4.out; subst eo55; obtain ⟨hcz56_0, hcz56_1, hfz56_0, hfz56_1⟩ := bk2 BK665.out) | (go_at_call 20; (with_reducible refine (spec_Keys.calls k2 x666000_1 _ _ x666001_1 t685 _ ?side1 ?side2 A44.out).mono ?_); (case side1 => refine (Kd.R_reads' (e := 49) (base := w.heap.size) (ok := fun k_ => (True ∧ some k_ ≠ (.slice Ao54 t680.length co54 : Value).ownBlock)) (n := x666001_1.length) (c := co49) ?_).2.2; exact (laws_FnChain.z4)); (case side2 => exact (Kd.R_reads' HO_666001.out).2.1); rintro e w57 ⟨v686, rfl, ho0, hb⟩; have n_ : _ ∧ _ ∧ _ ∧ _ ∧ _ ∧ _ ∧ _ := ⟨AsM (Kd.R_elder' (laws_FnChain.z8) (Kd.R_base ho0) hb), AsM (Kd.R_below (laws_FnChain.z4) hb), AsM (Kd.R_below (laws_FnChain.z14) hb), AsM (Kd.R_lower (Kd.R_new' ho0 (Kd.R_lt (laws_FnChain.z8))) (below_size BG)), AsM (blk_below (g := gb665) (o := .cells #[.int .i64 x666000_1, .slice Ao49 x666001_1.length co49] 25 (0, 0)) (laws_FnChain.z10) hb), AsM (blk_below (g := gb684) (o := .cells #[.int .i64 t679, .slice Ao54 t680.length co54] 25 (0, 0)) (laws_FnChain.z3) hb), AsM (below_step BG hb)⟩; clear HO_4 HO_666001 HO682 BK665 BK684 HB; obtain ⟨HO_4, HO_666001, HO682, HO687, BK665, BK684, HB⟩ := n_; (try clear hb); (try clear hb2); (try clear hk); (try clear hi); (try clear ho0); obtain ⟨Ao58, co58, eo58⟩ := Kd.R_slice HO687.out; subst eo58; obtain ⟨hcz59_0, hcz59_1, hfz59_0, hfz59_1⟩ := bk2 BK665.out) | (go_at_call 7; (with_reducible refine (impl_TableOk.calls k2 x666000_1 _ _ x666001_1 true _ ?side1 ?side2 A46.out).mono ?_); (case side1 => exact SR HO_666001); (case side2 => exact (Kd.R_reads' HO_666001.out).2.1); rintro e w60 ⟨rfl, hb⟩; have n_ : _ ∧ _ ∧ _ ∧ _ ∧ _ ∧ _ ∧ _ := ⟨AsM (Kd.R_below (RD HO_4) hb), AsM (Kd.R_below (RD HO_666001) hb), AsM (Kd.R_below (RD HO682) hb), AsM (Kd.R_below (RD HO687) hb), AsM (blk_below (BD BK665) hb), AsM (blk_below (BD BK684) hb), AsM (below_step BG hb)⟩; clear HO_4 HO_666001 HO682 HO687 BK665 BK684 HB; obtain ⟨HO_4, HO_666001, HO682, HO687, BK665, BK684, HB⟩ := n_; (try clear hb); (try clear hb2); (try clear hk); (try clear hi)))
           repeat (go_quiet (first | (go_at_call 16; (with_reducible refine (impl_Open.calls k2 x666000_1 _ _ x666001_1 x666000_1 t679 t680 t683 _ ?side1 ?side2 A42.out).mono ?_); (case side1 => exact SR HO_666001); (case side2 => exact (Kd.R_reads' HO_666001.out).2.1); rintro e w50 ⟨v681, rfl, ho0, hb⟩; have n_ : _ ∧ _ ∧ _ ∧ _ ∧ _ := ⟨AsM (Kd.R_below (RD HO_4) hb), AsM (Kd.R_elder' (RD HO_666001) (Kd.R_base ho0) hb), AsM (Kd.R_lower (Kd.R_new' ho0 (Kd.R_lt (RD HO_666001))) (below_size BG)), AsM (blk_below (BD BK665) hb), AsM (below_step BG hb)⟩; clear HO_4 HO_666001 BK665 HB; obtain ⟨HO_4, HO_666001, HO682, BK665, HB⟩ := n_; (try clear hb); (try clear hb2); (try clear hk); (try clear hi); (try clear ho0)) | ((with_reducible refine gate_dst (N := 13) rfl ?_); (try (refine gate_guard (by rfl) ?_; dsimp only)); refine box_event ?hg (N := 13) ?hd (cs := #[.int .i64 0, .slice none 0 0]) (t := 25) ?hr ?_; (case hd => rfl); (case hg => rfl); (case hr => first | (go_simp; done) | (go_simp; rfl)); intro gb684 hg w51 hbox hb; have n_ : _ ∧ _ ∧ _ ∧ _ ∧ _ ∧ _ ∧ _ ∧ _ ∧ _ ∧ _ := ⟨AsM (Kd.R_below (RD HO_4) hb), AsM (Kd.R_below (RD HO_666001) hb), AsM (Kd.R_below (RD HO682) hb), AsM (blk_below (BD BK665) hb), AsM (below_step BG hb), AsM (hbox), AsM ((GM : w.heap.size ≤ gb684)), AsM ((GM : w.heap.size ≤ gb684)), AsM ((laws_FnChain.z11 : gb665 ≠ gb684)), AsM ((laws_FnChain.z12 : gb684 ≠ gb665))⟩; clear HO_4 HO_666001 HO682 BK665 HB; obtain ⟨HO_4, HO_666001, HO682, BK665, HB, BK684, GW684, GE684, NB665_684, NB684_665⟩ := n_; clear hb hbox hg; have hnb52 := NB684_665.out; have hnc52 := NB665_684.out; obtain ⟨hcz53_0, hcz53_1, hfz53_0, hfz53_1⟩ := bk2 BK684.out; obtain ⟨Ao54, co54, eo54⟩ := Kd.R_slice HO682.out; subst eo54; obtain ⟨Ao55, co55, eo55⟩ := Kd.R_slice HO_4.out; subst eo55; obtain ⟨hcz56_0, hcz56_1, hfz56_0, hfz56_1⟩ := bk2 BK665.out) | (go_at_call 20; (with_reducible refine (spec_Keys.calls k2 x666000_1 _ _ x666001_1 t685 _ ?side1 ?side2 A44.out).mono ?_); (case side1 => refine (Kd.R_reads' (e := 49) (base := w.heap.size) (ok := fun k_ => (True ∧ some k_ ≠ (.slice Ao54 t680.length co54 : Value).ownBlock)) (n := x666001_1.length) (c := co49) ?_).2.2; exact (laws_FnChain.z4)); (case side2 => exact (Kd.R_reads' HO_666001.out).2.1); rintro e w57 ⟨v686, rfl, ho0, hb⟩; have n_ : _ ∧ _ ∧ _ ∧ _ ∧ _ ∧ _ ∧ _ := ⟨AsM (Kd.R_elder' (laws_FnChain.z8) (Kd.R_base ho0) hb), AsM (Kd.R_below (laws_FnChain.z4) hb), AsM (Kd.R_below (laws_FnChain.z14) hb), AsM (Kd.R_lower (Kd.R_new' ho0 (Kd.R_lt (laws_FnChain.z8))) (below_size BG)), AsM (blk_below (g := gb665) (o := .cells #[.int .i64 x666000_1, .slice Ao49 x666001_1.length co49] 25 (0, 0)) (laws_FnChain.z10) hb), AsM (blk_below (g := gb684) (o := .cells #[.int .i64 t679, .slice Ao54 t680.length co54] 25 (0, 0)) (laws_FnChain.z3) hb), AsM (below_step BG hb)⟩; clear HO_4 HO_666001 HO682 BK665 BK684 HB; obtain ⟨HO_4, HO_666001, HO682, HO687, BK665, BK684, HB⟩ := n_; (try clear hb); (try clear hb2); (try clear hk); (try clear hi); (try clear ho0); obtain ⟨Ao58, co58, eo58⟩ := Kd.R_slice HO687.out; subst eo58; obtain ⟨hcz59_0, hcz59_1, hfz59_0, hfz59_1⟩ := bk2 BK665.out) | (go_at_call 7; (with_reducible refine (impl_TableOk.calls k2 x666000_1 _ _ x666001_1 true _ ?side1 ?side2 A46.out).mono ?_); (case side1 => exact SR HO_666001); (case side2 => exact (Kd.R_reads' HO_666001.out).2.1); rintro e w60 ⟨rfl, hb⟩; have n_ : _ ∧ _ ∧ _ ∧ _ ∧ _ ∧ _ ∧ _ := ⟨AsM (Kd.R_below (RD HO_4) hb), AsM (Kd.R_below (RD HO_666001) hb), AsM (Kd.R_below (RD HO682) hb), AsM (Kd.R_below (RD HO687) hb), AsM (blk_below (BD BK665) hb), AsM (blk_below (BD BK684) hb), AsM (below_step BG hb)⟩; clear HO_4 HO_666001 HO682 HO687 BK665 BK684 HB; obtain ⟨HO_4, HO_666001, HO682, HO687, BK665, BK684, HB⟩ := n_; (try clear hb); (try clear hb2); (try clear hk); (try clear hi))); try go_wp2_with (first | (go_at_call 16; (with_reducible refine (impl_Open.calls k2 x666000_1 _ _ x666001_1 x666000_1 t679 t680 t683 _ ?side1 ?side2 A42.out).mono ?_); (case side1 => exact SR HO_666001); (case side2 => exact (Kd.R_reads' HO_666001.out).2.1); rintro e w50 ⟨v681, rfl, ho0, hb⟩; have n_ : _ ∧ _ ∧ _ ∧ _ ∧ _ := ⟨AsM (Kd.R_below (RD HO_4) hb), AsM (Kd.R_elder' (RD HO_666001) (Kd.R_base ho0) hb), AsM (Kd.R_lower (Kd.R_new' ho0 (Kd.R_lt (RD HO_666001))) (below_size BG)), AsM (blk_below (BD BK665) hb), AsM (below_step BG hb)⟩; clear HO_4 HO_666001 BK665 HB; obtain ⟨HO_4, HO_666001, HO682, BK665, HB⟩ := n_; (try clear hb); (try clear hb2); (try clear hk); (try clear hi); (try clear ho0)) | ((with_reducible refine gate_dst (N := 13) rfl ?_); (try (refine gate_guard (by rfl) ?_; dsimp only)); refine box_event ?hg (N := 13) ?hd (cs := #[.int .i64 0, .slice none 0 0]) (t := 25) ?hr ?_; (case hd => rfl); (case hg => rfl); (case hr => first | (go_simp; done) | (go_simp; rfl)); intro gb684 hg w51 hbox hb; have n_ : _ ∧ _ ∧ _ ∧ _ ∧ _ ∧ _ ∧ _ ∧ _ ∧ _ ∧ _ := ⟨AsM (Kd.R_below (RD HO_4) hb), AsM (Kd.R_below (RD HO_666001) hb), AsM (Kd.R_below (RD HO682) hb), AsM (blk_below (BD BK665) hb), AsM (below_step BG hb), AsM (hbox), AsM ((GM : w.heap.size ≤ gb684)), AsM ((GM : w.heap.size ≤ gb684)), AsM ((laws_FnChain.z11 : gb665 ≠ gb684)), AsM ((laws_FnChain.z12 : gb684 ≠ gb665))⟩; clear HO_4 HO_666001 HO682 BK665 HB; obtain ⟨HO_4, HO_666001, HO682, BK665, HB, BK684, GW684, GE684, NB665_684, NB684_665⟩ := n_; clear hb hbox hg; have hnb52 := NB684_665.out; have hnc52 := NB665_684.out; obtain ⟨hcz53_0, hcz53_1, hfz53_0, hfz53_1⟩ := bk2 BK684.out; obtain ⟨Ao54, co54, eo54⟩ := Kd.R_slice HO682.out; subst eo54; obtain ⟨Ao55, co55, eo55⟩ := Kd.R_slice HO_4.out; subst eo55; obtain ⟨hcz56_0, hcz56_1, hfz56_0, hfz56_1⟩ := bk2 BK665.out) | (go_at_call 20; (with_reducible refine (spec_Keys.calls k2 x666000_1 _ _ x666001_1 t685 _ ?side1 ?side2 A44.out).mono ?_); (case side1 => refine (Kd.R_reads' (e := 49) (base := w.heap.size) (ok := fun k_ => (True ∧ some k_ ≠ (.slice Ao54 t680.length co54 : Value).ownBlock)) (n := x666001_1.length) (c := co49) ?_).2.2; exact (laws_FnChain.z4)); (case side2 => exact (Kd.R_reads' HO_666001.out).2.1); rintro e w57 ⟨v686, rfl, ho0, hb⟩; have n_ : _ ∧ _ ∧ _ ∧ _ ∧ _ ∧ _ ∧ _ := ⟨AsM (Kd.R_elder' (laws_FnChain.z8) (Kd.R_base ho0) hb), AsM (Kd.R_below (laws_FnChain.z4) hb), AsM (Kd.R_below (laws_FnChain.z14) hb), AsM (Kd.R_lower (Kd.R_new' ho0 (Kd.R_lt (laws_FnChain.z8))) (below_size BG)), AsM (blk_below (g := gb665) (o := .cells #[.int .i64 x666000_1, .slice Ao49 x666001_1.length co49] 25 (0, 0)) (laws_FnChain.z10) hb), AsM (blk_below (g := gb684) (o := .cells #[.int .i64 t679, .slice Ao54 t680.length co54] 25 (0, 0)) (laws_FnChain.z3) hb), AsM (below_step BG hb)⟩; clear HO_4 HO_666001 HO682 BK665 BK684 HB; obtain ⟨HO_4, HO_666001, HO682, HO687, BK665, BK684, HB⟩ := n_; (try clear hb); (try clear hb2); (try clear hk); (try clear hi); (try clear ho0); obtain ⟨Ao58, co58, eo58⟩ := Kd.R_slice HO687.out; subst eo58; obtain ⟨hcz59_0, hcz59_1, hfz59_0, hfz59_1⟩ := bk2 BK665.out) | (go_at_call 7; (with_reducible refine (impl_TableOk.calls k2 x666000_1 _ _ x666001_1 true _ ?side1 ?side2 A46.out).mono ?_); (case side1 => exact SR HO_666001); (case side2 => exact (Kd.R_reads' HO_666001.out).2.1); rintro e w60 ⟨rfl, hb⟩; have n_ : _ ∧ _ ∧ _ ∧ _ ∧ _ ∧ _ ∧ _ := ⟨AsM (Kd.R_below (RD HO_4) hb), AsM (Kd.R_below (RD HO_666001) hb), AsM (Kd.R_below (RD HO682) hb), AsM (Kd.R_below (RD HO687) hb), AsM (blk_below (BD BK665) hb), AsM (blk_below (BD BK684) hb), AsM (below_step BG hb)⟩; clear HO_4 HO_666001 HO682 HO687 BK665 BK684 HB; obtain ⟨HO_4, HO_666001, HO682, HO687, BK665, BK684, HB⟩ := n_; (try clear hb); (try clear hb2); (try clear hk); (try clear hi))))
           go_ret
           exact ⟨ER, BG⟩
          ·replace c47 := Bool.eq_false_iff.mpr c47
           subst c47
           replace H := IN H
           exact absurd H (by simp)
         ·rw [if_neg c45] at H
          exact absurd H (by simp)
        ·rw [if_neg c43] at H
         exact absurd H (by simp)
/-- THE ONE PURE STATEMENT of laws_FnChain: yours. -/
def laws_FnChain.Pure : Prop := ∀ (l0 : List Int), l0.length ≤ maxLen → l0.length * 1 ≤ 140737488351232 → (∀ x ∈ l0, (Lit.int .u8 x).wf = true) → ∃ k, laws_FnChain.f k l0 = some true
theorem laws_FnChain.walk (P : laws_FnChain.Pure) (a0 : Option Addr) (len0 cap0 : Nat) (z0 : List Int) (w : World) (w0 : (a0 = none ∧ len0 = 0 ∧ cap0 = 0 ∧ z0 = []) ∨ ∃ x, a0 = some x ∧ len0 ≤ cap0 ∧ cap0 ≤ maxLen ∧ z0.length = cap0 ∧ (∀ i, i < z0.length → w.cell? (x.add i) = some (.int .u8 (z0.getD i 0))) ∧ ∀ n ∈ z0, (Lit.int .u8 n).wf = true) (y0 : len0 * 1 ≤ 140737488351232) :
  Calls Try.prog 4 #[.slice a0 len0 cap0] w fun e w' => e = .returned (.bool true) ∧ Below w.heap.size w w' := by
 obtain ⟨l0, rfl, hr0, hm0, hw0, hc0⟩ := ReadsInt.ofRowC w0
 obtain ⟨k, h⟩ := P l0 hm0 y0 hw0
 refine (laws_FnChain.calls k _ _ l0 true w (Kd.C_of_reads (d := (0 : Int)) (h1 := fun _ => rfl) hr0) hc0 h).mono ?_
 rintro e w' ⟨rfl, hd⟩
 exact ⟨rfl, hd⟩
end Go.Proofs.Ytbjlldjkkdiblaa.G

namespace Go.Proofs.Ytbjlldjkkdiblaa.G
open Go.RowKit Go.Proofs.YtbjlldjkkdiblaaW.PrintWords Go.Proofs.YtbjlldjkkdiblaaW.PrintLast Go.Proofs.YtbjlldjkkdiblaaW.PrintMore Go.Proofs.Ytbjlldjkkdiblaa.Sh
attribute [local go_sem] max2_int min2_int max_two min_two max_three min_three max_four min_four
set_option linter.unusedVariables false
set_option linter.unusedSimpArgs false
attribute [local go_sem high] eqA49
def slices_Index_impl_Entry_impl_Entry.l0 : Nat → List (S49) → Int → Int → Int → ByteArray → Option (Int)
 | 0, _, _, _, _, _ => none
 | k + 1, x0, x7, x8, x469000, x469001 => if x8 < x7 then (if 0 ≤ x8 then (if x8 < (x0.length : Int) then (if (x469000 == ((rd_T49 x0 x8).f0) && (x469001.toList == (((rd_T49 x0 x8).f1).toList))) = true then (some x8) else (slices_Index_impl_Entry_impl_Entry.l0 k x0 x7 (wrap64 (x8 + 1)) x469000 x469001)) else (none)) else (none)) else (some (-1))
def slices_Index_impl_Entry_impl_Entry.f (k : Nat) (l0 : List (S49)) (a1_0 : Int) (a1_1 : ByteArray) : Option (Int) := slices_Index_impl_Entry_impl_Entry.l0 k l0 (l0.length : Int) 0 a1_0 a1_1
theorem slices_Index_impl_Entry_impl_Entry.mono_l : ∀ k, (∀ y0 y1 y2 y3 y4, LeO (slices_Index_impl_Entry_impl_Entry.l0 k y0 y1 y2 y3 y4) (slices_Index_impl_Entry_impl_Entry.l0 (k + 1) y0 y1 y2 y3 y4))
 | 0 => fun _ _ _ _ _ r h => by simp [slices_Index_impl_Entry_impl_Entry.l0] at h
 | k + 1 => by
  have ih0 := slices_Index_impl_Entry_impl_Entry.mono_l k
  ·intro y0 y1 y2 y3 y4
   unfold slices_Index_impl_Entry_impl_Entry.l0
   repeat' first | (with_reducible first | exact ih0 _ _ _ _ _ | exact LeO.refl _ | exact LeO.none _ | refine LeO.ite ?_ ?_ | refine LeO.bind ?_ (fun _ => ?_)) | exact ih0 _ _ _ _ _ | exact LeO.none _ | refine LeO.ite ?_ ?_ | refine LeO.bind ?_ (fun _ => ?_)
theorem slices_Index_impl_Entry_impl_Entry.mono : ∀ a0 a1 a2 k, LeO (slices_Index_impl_Entry_impl_Entry.f k a0 a1 a2) (slices_Index_impl_Entry_impl_Entry.f (k + 1) a0 a1 a2) := by
 intro a0 a1 a2 k
 have ih0 := slices_Index_impl_Entry_impl_Entry.mono_l k
 unfold slices_Index_impl_Entry_impl_Entry.f
 repeat' first | (with_reducible first | exact ih0 _ _ _ _ _ | exact LeO.refl _ | exact LeO.none _ | refine LeO.ite ?_ ?_ | refine LeO.bind ?_ (fun _ => ?_)) | exact ih0 _ _ _ _ _ | exact LeO.none _ | refine LeO.ite ?_ ?_ | refine LeO.bind ?_ (fun _ => ?_)
set_option maxHeartbeats 8000000 in
set_option maxRecDepth 100000 in
theorem slices_Index_impl_Entry_impl_Entry.calls (k : Nat) (A0 : Option Addr) (c0 : Nat) (l0 : List (S49)) (a1_0 : Int) (a1_1 : ByteArray) (r : Int) (w : World) (hr0 : Kd.C k49 w A0 l0.length l0) (hc0 : l0.length ≤ c0) (h : slices_Index_impl_Entry_impl_Entry.f k l0 a1_0 a1_1 = some r) :
  Calls Try.prog 49 #[.slice A0 l0.length c0, .agg #[.int .i64 a1_0, .string a1_1]] w fun e w' => e = .returned (.int .i64 r) ∧ Below w.heap.size w w' := by
 have hu49 := Try.underlying49
 have HR0 := Aside0.mk hr0
 have HC0 := Aside0.mk hc0
 clear hr0 hc0
 have HB := Aside0.mk (Below.refl w.heap.size w)
 have H : (slices_Index_impl_Entry_impl_Entry.l0 k l0 (l0.length : Int) 0 a1_0 a1_1) = some r := h
 clear h
 have H' := Aside0.mk H
 clear H
 go_enter Try.func49, Try.ntmps49
 go_wp2_with (first | ((with_reducible refine gate_dst (N := 3) rfl ?_); refine box_event ?hg (N := 3) ?hd (cs := #[.int .i64 a1_0, .string a1_1]) (t := 49) ?hr ?_; (case hd => rfl); (case hg => rfl); (case hr => first | (go_simp; done) | (go_simp; rfl)); intro gb468 hg w3 hbox hb; have n_ : _ ∧ _ ∧ _ ∧ _ := ⟨AsM (below_step BL hb), AsM (hbox), AsM ((GL : w.heap.size ≤ gb468)), AsM ((GL : w.heap.size ≤ gb468))⟩; clear HB; obtain ⟨HB, BK468, GW468, GE468⟩ := n_; clear hb hbox hg))
 repeat (go_quiet (first | ((with_reducible refine gate_dst (N := 3) rfl ?_); refine box_event ?hg (N := 3) ?hd (cs := #[.int .i64 a1_0, .string a1_1]) (t := 49) ?hr ?_; (case hd => rfl); (case hg => rfl); (case hr => first | (go_simp; done) | (go_simp; rfl)); intro gb468 hg w3 hbox hb; have n_ : _ ∧ _ ∧ _ ∧ _ := ⟨AsM (below_step BL hb), AsM (hbox), AsM ((GL : w.heap.size ≤ gb468)), AsM ((GL : w.heap.size ≤ gb468))⟩; clear HB; obtain ⟨HB, BK468, GW468, GE468⟩ := n_; clear hb hbox hg)); try go_wp2_with (first | ((with_reducible refine gate_dst (N := 3) rfl ?_); refine box_event ?hg (N := 3) ?hd (cs := #[.int .i64 a1_0, .string a1_1]) (t := 49) ?hr ?_; (case hd => rfl); (case hg => rfl); (case hr => first | (go_simp; done) | (go_simp; rfl)); intro gb468 hg w3 hbox hb; have n_ : _ ∧ _ ∧ _ ∧ _ := ⟨AsM (below_step BL hb), AsM (hbox), AsM ((GL : w.heap.size ≤ gb468)), AsM ((GL : w.heap.size ≤ gb468))⟩; clear HB; obtain ⟨HB, BK468, GW468, GE468⟩ := n_; clear hb hbox hg)))
 go_loopg [8] k (fun kq v8 w' => ∃ (x8_1 : Int), v8 = .int .i64 x8_1 ∧ Aside0 (slices_Index_impl_Entry_impl_Entry.l0 kq l0 (l0.length : Int) x8_1 a1_0 a1_1 = some r) ∧ Aside0 (kq ≤ k) ∧ Aside0 (w'.heap[gb468]? = some (.cells #[.int .i64 a1_0, .string a1_1] 49 (0, 0))) ∧ Aside0 (Below w.heap.size w w'))
 case atStart => exact ⟨(0), RS, H', ⟨Nat.le_refl _⟩, ⟨BD BK468⟩, ⟨by repeat (first | (with_reducible first | exact HB.out | apply below_alloc | apply pw_below_drewN | apply below_drew1 | refine below_set ?_ GE468.out) | exact HB.out)⟩⟩
 case round =>
  clear H'
  try clear p2
  obtain ⟨x8_1, rfl, HA, HK1, BK468, HB⟩ := hrel
  cases gk with
  | zero => exact absurd HA.out (by simp [slices_Index_impl_Entry_impl_Entry.l0])
  | succ k1 =>
   have H := HA.out
   clear HA
   simp only [slices_Index_impl_Entry_impl_Entry.l0] at H
   by_cases c4 : x8_1 < (l0.length : Int)
   ·rw [if_pos c4] at H
    have c4b0 : decide (x8_1 < (l0.length : Int)) = true := decide_eq_true c4
    clear c4
    by_cases c5 : 0 ≤ x8_1
    ·rw [if_pos c5] at H
     have c5b0 : decide (0 ≤ x8_1) = true := decide_eq_true c5
     clear c5
     by_cases c6 : x8_1 < (l0.length : Int)
     ·rw [if_pos c6] at H
      have c6b0 : decide (x8_1 < (l0.length : Int)) = true := decide_eq_true c6
      clear c6
      by_cases c7 : (a1_0 == ((rd_T49 l0 x8_1).f0) && (a1_1.toList == (((rd_T49 l0 x8_1).f1).toList))) = true
      ·rw [if_pos c7] at H
       have c7b0 : (a1_0 == ((rd_T49 l0 x8_1).f0) && (a1_1.toList == (((rd_T49 l0 x8_1).f1).toList))) = true := c7
       (try (have c7b1 : decide (a1_0 = ((rd_T49 l0 x8_1).f0) && (a1_1.toList == (((rd_T49 l0 x8_1).f1).toList))) = true := by simpa using c7))
       (try (have c7b2 : (a1_0 == ((rd_T49 l0 x8_1).f0) && (a1_1.toList == (((rd_T49 l0 x8_1).f1).toList))) = true := by simpa using c7))
       clear c7
       obtain rfl := Option.some.inj H
       obtain ⟨hcz8_0, hcz8_1, hfz8_0, hfz8_1⟩ := bk2 BK468.out
       have p469 : 0 ≤ (x8_1 : Int) := of_decide_eq_true AS
       have q469 : x8_1 < (l0.length : Int) := of_decide_eq_true AS
       obtain ⟨ad469, e469, hx469_0, hx469_1⟩ := at_T49 HR0.out x8_1 p469 q469
       cases e469
       replace hx469_0 := (HB.out.cell (World.block_lt_of_cell? w _ hx469_0)).trans hx469_0
       replace hx469_1 := (HB.out.cell (World.block_lt_of_cell? w _ hx469_1)).trans hx469_1
       replace p469 := eq_true p469
       replace q469 := eq_true q469
       go_wp2
       repeat (go_quiet (fail); try go_wp2)
       go_ret
       exact ⟨ER, BG⟩
      ·rw [if_neg c7] at H
       have c7b0 : (a1_0 == ((rd_T49 l0 x8_1).f0) && (a1_1.toList == (((rd_T49 l0 x8_1).f1).toList))) = false := by simpa using c7
       (try (have c7b1 : decide (a1_0 = ((rd_T49 l0 x8_1).f0) && (a1_1.toList == (((rd_T49 l0 x8_1).f1).toList))) = false := by simpa using c7))
       (try (have c7b2 : (a1_0 == ((rd_T49 l0 x8_1).f0) && (a1_1.toList == (((rd_T49 l0 x8_1).f1).toList))) = false := by simpa using c7))
       (try (have c7b3 : ¬ (a1_0 = ((rd_T49 l0 x8_1).f0) && (a1_1.toList == (((rd_T49 l0 x8_1).f1).toList))) := by simpa using c7))
       clear c7
       have H' := Aside0.mk H
       clear H
       obtain ⟨hcz9_0, hcz9_1, hfz9_0, hfz9_1⟩ := bk2 BK468.out
       have p469 : 0 ≤ (x8_1 : Int) := of_decide_eq_true AS
       have q469 : x8_1 < (l0.length : Int) := of_decide_eq_true AS
       obtain ⟨ad469, e469, hx469_0, hx469_1⟩ := at_T49 HR0.out x8_1 p469 q469
       cases e469
       replace hx469_0 := (HB.out.cell (World.block_lt_of_cell? w _ hx469_0)).trans hx469_0
       replace hx469_1 := (HB.out.cell (World.block_lt_of_cell? w _ hx469_1)).trans hx469_1
       replace p469 := eq_true p469
       replace q469 := eq_true q469
       go_wp2
       repeat (go_quiet (fail); try go_wp2)
       go_roundg k1
       case measure => have := HK1.out; omega
       case rel => exact ⟨(wrap64 (x8_1 + 1)), RS, H', ⟨by have := HK1.out; omega⟩, ⟨BD BK468⟩, ⟨by repeat (first | (with_reducible first | exact HB.out | apply below_alloc | apply pw_below_drewN | apply below_drew1 | refine below_set ?_ GE468.out) | exact HB.out)⟩⟩
     ·rw [if_neg c6] at H
      exact absurd H (by simp)
    ·rw [if_neg c5] at H
     exact absurd H (by simp)
   ·rw [if_neg c4] at H
    have c4b0 : decide (x8_1 < (l0.length : Int)) = false := decide_eq_false c4
    clear c4
    obtain rfl := Option.some.inj H
    go_wp2
    repeat (go_quiet (fail); try go_wp2)
    go_ret
    exact ⟨ER, BG⟩
end Go.Proofs.Ytbjlldjkkdiblaa.G

namespace Go.Proofs.Ytbjlldjkkdiblaa.G
open Go.RowKit Go.Proofs.YtbjlldjkkdiblaaW.PrintWords Go.Proofs.YtbjlldjkkdiblaaW.PrintLast Go.Proofs.YtbjlldjkkdiblaaW.PrintMore Go.Proofs.Ytbjlldjkkdiblaa.Sh
attribute [local go_sem] max2_int min2_int max_two min_two max_three min_three max_four min_four
set_option linter.unusedVariables false
set_option linter.unusedSimpArgs false
def slices_Contains_impl_Entry_impl_Entry.f (k : Nat) (l0 : List (S49)) (a1_0 : Int) (a1_1 : ByteArray) : Option (Bool) := (slices_Index_impl_Entry_impl_Entry.f k l0 a1_0 a1_1).bind fun t471 => (some (decide (t471 ≥ 0)))
theorem slices_Contains_impl_Entry_impl_Entry.mono : ∀ a0 a1 a2 k, LeO (slices_Contains_impl_Entry_impl_Entry.f k a0 a1 a2) (slices_Contains_impl_Entry_impl_Entry.f (k + 1) a0 a1 a2) := by
 intro a0 a1 a2 k
 unfold slices_Contains_impl_Entry_impl_Entry.f
 repeat' first | (with_reducible first | exact slices_Index_impl_Entry_impl_Entry.mono _ _ _ _ | exact LeO.refl _ | exact LeO.none _ | refine LeO.ite ?_ ?_ | refine LeO.bind ?_ (fun _ => ?_)) | exact slices_Index_impl_Entry_impl_Entry.mono _ _ _ _ | exact LeO.none _ | refine LeO.ite ?_ ?_ | refine LeO.bind ?_ (fun _ => ?_)
set_option maxHeartbeats 8000000 in
set_option maxRecDepth 100000 in
theorem slices_Contains_impl_Entry_impl_Entry.calls (k : Nat) (A0 : Option Addr) (c0 : Nat) (l0 : List (S49)) (a1_0 : Int) (a1_1 : ByteArray) (r : Bool) (w : World) (hr0 : Kd.C k49 w A0 l0.length l0) (hc0 : l0.length ≤ c0) (h : slices_Contains_impl_Entry_impl_Entry.f k l0 a1_0 a1_1 = some r) :
  Calls Try.prog 32 #[.slice A0 l0.length c0, .agg #[.int .i64 a1_0, .string a1_1]] w fun e w' => e = .returned (.bool r) ∧ Below w.heap.size w w' := by
 have hu49 := Try.underlying49
 have HR0 := Aside0.mk hr0
 have HC0 := Aside0.mk hc0
 clear hr0 hc0
 have HB := Aside0.mk (Below.refl w.heap.size w)
 have H : ((slices_Index_impl_Entry_impl_Entry.f k l0 a1_0 a1_1).bind fun t471 => (some (decide (t471 ≥ 0)))) = some r := h
 clear h
 replace H := BS H
 obtain ⟨t471, A30, H⟩ := H
 have A3 := Aside0.mk A30
 clear A30
 obtain rfl := Option.some.inj H
 go_enter Try.func32, Try.ntmps32
 go_wp2_with (first | ((with_reducible refine gate_dst (N := 3) rfl ?_); refine box_event ?hg (N := 3) ?hd (cs := #[.int .i64 a1_0, .string a1_1]) (t := 49) ?hr ?_; (case hd => rfl); (case hg => rfl); (case hr => first | (go_simp; done) | (go_simp; rfl)); intro gb470 hg w4 hbox hb; have n_ : _ ∧ _ ∧ _ ∧ _ := ⟨AsM (below_step BL hb), AsM (hbox), AsM ((GL : w.heap.size ≤ gb470)), AsM ((GL : w.heap.size ≤ gb470))⟩; clear HB; obtain ⟨HB, BK470, GW470, GE470⟩ := n_; clear hb hbox hg; obtain ⟨hcz5_0, hcz5_1, hfz5_0, hfz5_1⟩ := bk2 BK470.out) | ((with_reducible refine gate_callee (f := 49) rfl ?_); refine goesL_ (some 7) rfl rfl Try.func49 (by kernel_rfl) rfl #[.slice A0 l0.length c0, .agg #[.int .i64 a1_0, .string a1_1]] rfl AQ ?_; (with_reducible refine (slices_Index_impl_Entry_impl_Entry.calls k _ _ l0 a1_0 a1_1 t471 _ ?side1 ?side2 A3.out).mono ?_); (case side1 => exact SC HR0); (case side2 => exact HC0.out); rintro e w6 ⟨rfl, hb⟩; refine ⟨_, rfl, ?_⟩; have n_ : _ ∧ _ := ⟨AsM (blk_below (BD BK470) hb), AsM (below_step BG hb)⟩; clear BK470 HB; obtain ⟨BK470, HB⟩ := n_; (try clear hb); (try clear hb2); (try clear hk); (try clear hi)))
 go_ret
 exact ⟨ER, BG⟩
def impl_Has.f (k : Nat) (a0_0 : Int) (l0_1 : List (S49)) (a1 : ByteArray) : Option (Bool) := if a1.toList = ([] : List UInt8) then (some false) else ((impl_TableOk.f k a0_0 l0_1).bind fun t473 => (if t473 = true then ((impl_entryOf.f k a1).bind fun bt474 => ((slices_Contains_impl_Entry_impl_Entry.f k l0_1 bt474.1 bt474.2).bind fun t476 => (some t476))) else (some false)))
theorem impl_Has.mono : ∀ a0 a1 a2 k, LeO (impl_Has.f k a0 a1 a2) (impl_Has.f (k + 1) a0 a1 a2) := by
 intro a0 a1 a2 k
 unfold impl_Has.f
 repeat' first | (with_reducible first | exact impl_TableOk.mono _ _ _ | exact impl_entryOf.mono _ _ | exact slices_Contains_impl_Entry_impl_Entry.mono _ _ _ _ | exact LeO.refl _ | exact LeO.none _ | refine LeO.ite ?_ ?_ | refine LeO.bind ?_ (fun _ => ?_)) | exact impl_TableOk.mono _ _ _ | exact impl_entryOf.mono _ _ | exact slices_Contains_impl_Entry_impl_Entry.mono _ _ _ _ | exact LeO.none _ | refine LeO.ite ?_ ?_ | refine LeO.bind ?_ (fun _ => ?_)
def impl_Has.T1 : Bool × List (List Nat × List Nat) := (true, [([], []), ([0], [0]), ([1], [1]), ([2], [2]), ([3, 2, 2], [2, 3]), ([2, 4], [2, 4]), ([5, 4], [5]), ([6], [6]), ([7, 6], [6, 7]), ([6], [6]), ([9, 6, 6], [6, 9]), ([8, 10, 10, 6], [6, 8, 10]), ([6, 11], [6, 11]), ([12, 11, 0, 1, 2, 3, 4, 5, 6, 7, 8, 9, 10, 11, 12], [12])])
def impl_Has.B1 : List Nat := [0, 1, 3, 7, 15, 31, 63, 127, 255, 127, 639, 2047, 4095, 8191]
theorem impl_Has.tab1 : rtab .any (opsOf Try.f10 1) = impl_Has.T1 := by kernel_rfl
theorem impl_Has.bits1 : waitsOk impl_Has.T1.2 impl_Has.B1 = true := by kernel_rfl
set_option maxHeartbeats 8000000 in
set_option maxRecDepth 100000 in
theorem impl_Has.calls (k : Nat) (a0_0 : Int) (A0_1 : Option Addr) (c0_1 : Nat) (l0_1 : List (S49)) (a1 : ByteArray) (r : Bool) (w : World) (hr0_1 : Kd.C k49 w A0_1 l0_1.length l0_1) (hc0_1 : l0_1.length ≤ c0_1) (h : impl_Has.f k a0_0 l0_1 a1 = some r) :
  Calls Try.prog 10 #[.agg #[.int .i64 a0_0, .slice A0_1 l0_1.length c0_1], .string a1] w fun e w' => e = .returned (.bool r) ∧ Below w.heap.size w w' := by
 have hu25 := Try.underlying25
 have HR0_1 := Aside0.mk hr0_1
 have HC0_1 := Aside0.mk hc0_1
 clear hr0_1 hc0_1
 have HB := Aside0.mk (Below.refl w.heap.size w)
 have H : (if a1.toList = ([] : List UInt8) then (some false) else ((impl_TableOk.f k a0_0 l0_1).bind fun t473 => (if t473 = true then ((impl_entryOf.f k a1).bind fun bt474 => ((slices_Contains_impl_Entry_impl_Entry.f k l0_1 bt474.1 bt474.2).bind fun t476 => (some t476))) else (some false)))) = some r := h
 clear h
 by_cases c3 : a1.toList = ([] : List UInt8)
 ·rw [if_pos c3] at H
  have c3b0 : (a1.toList == ([] : List UInt8)) = true := beq_iff_eq.mpr c3
  have c3b1 : (a1.toList != ([] : List UInt8)) = false := bne_eq_false_iff_eq.mpr c3
  clear c3
  obtain rfl := Option.some.inj H
  go_enter Try.func10, Try.ntmps10
  try go_wp2_with (first | ((with_reducible refine gate_dst (N := 2) rfl ?_); refine box_event ?hg (N := 2) ?hd (cs := #[.int .i64 a0_0, .slice A0_1 l0_1.length c0_1]) (t := 25) ?hr ?_; (case hd => rfl); (case hg => rfl); (case hr => first | (go_simp; done) | (go_simp; rfl)); intro gb472 hg w4 hbox hb; have n_ : _ ∧ _ ∧ _ ∧ _ := ⟨AsM (below_step BL hb), AsM (hbox), AsM ((GL : w.heap.size ≤ gb472)), AsM ((GL : w.heap.size ≤ gb472))⟩; clear HB; obtain ⟨HB, BK472, GW472, GE472⟩ := n_; clear hb hbox hg))
  have n_ : _ ∧ _ := ⟨AsM (blk_drew BK472.out), AsM (below_drew1 HB.out)⟩
  clear BK472 HB
  obtain ⟨BK472, HB⟩ := n_
  refine start_ (n := 14) (S := fun w' => True) (ds := []) #[false, false, false, false, false, false, false, false, false, false, false, false, false, false] (by kernel_rfl) rfl rfl trivial (fun hHeld => ?_); refine with_tabW impl_Has.tab1 impl_Has.bits1 (fun HT_ HW_ => ?_)
  generalize w4.drew = w5 at BK472 HB hHeld ⊢
  refine PU (i := 0) (N := some 5) (tf 1 13) rfl rfl HT_ ?_
  refine PU (i := 1) (N := some 6) (tf 2 12) rfl rfl HT_ ?_
  refine PU (i := 2) (N := some 7) (tf 3 11) rfl rfl HT_ ?_
  refine PN (i := 3) (N := some 8) (tf 4 10) rfl rfl HT_ ?_
  refine PN (i := 4) (N := some 9) (tf 5 9) rfl rfl HT_ ?_
  refine PU (i := 5) (N := some 10) (tf 6 8) rfl rfl HT_ ?_
  refine PU (i := 6) (N := some 11) (tf 7 7) rfl rfl HT_ ?_
  refine PN (i := 7) (N := some 12) (tf 8 6) rfl rfl HT_ ?_
  refine PN (i := 8) (N := some 13) (tf 9 5) rfl rfl HT_ ?_
  refine PN (i := 9) (N := some 14) (tf 10 4) rfl rfl HT_ ?_
  refine PN (i := 10) (N := some 15) (tf 11 3) rfl rfl HT_ ?_
  refine PN (i := 11) (N := some 16) (tf 12 2) rfl rfl HT_ ?_
  refine PU (i := 12) (N := some 17) (tf 13 1) rfl rfl HT_ ?_
  refine PU (i := 13) (N := some 4) (tf 14 0) rfl rfl HT_ ?_
  refine done_ (done_of HT_.out (by kernel_rfl)) ?_
  try go_wp2
  go_ret
  exact ⟨ER, BG⟩
 ·rw [if_neg c3] at H
  have c3b0 : (a1.toList == ([] : List UInt8)) = false := beq_eq_false_iff_ne.mpr c3
  have c3b1 : (a1.toList != ([] : List UInt8)) = true := bne_iff_ne.mpr c3
  replace H := BS H
  obtain ⟨t473, A60, H⟩ := H
  have A6 := Aside0.mk A60
  clear A60
  by_cases c7 : t473 = true
  ·subst c7
   replace H := IP H
   replace H := BS H
   obtain ⟨⟨t474, t475⟩, A80, H⟩ := H
   have A8 := Aside0.mk A80
   clear A80
   replace H := BS H
   obtain ⟨t476, A90, H⟩ := H
   have A9 := Aside0.mk A90
   clear A90
   obtain rfl := Option.some.inj H
   go_enter Try.func10, Try.ntmps10
   try go_wp2_with (first | ((with_reducible refine gate_dst (N := 2) rfl ?_); refine box_event ?hg (N := 2) ?hd (cs := #[.int .i64 a0_0, .slice A0_1 l0_1.length c0_1]) (t := 25) ?hr ?_; (case hd => rfl); (case hg => rfl); (case hr => first | (go_simp; done) | (go_simp; rfl)); intro gb472 hg w10 hbox hb; have n_ : _ ∧ _ ∧ _ ∧ _ := ⟨AsM (below_step BL hb), AsM (hbox), AsM ((GL : w.heap.size ≤ gb472)), AsM ((GL : w.heap.size ≤ gb472))⟩; clear HB; obtain ⟨HB, BK472, GW472, GE472⟩ := n_; clear hb hbox hg))
   have n_ : _ ∧ _ := ⟨AsM (blk_drew BK472.out), AsM (below_drew1 HB.out)⟩
   clear BK472 HB
   obtain ⟨BK472, HB⟩ := n_
   refine start_ (n := 14) (S := fun w' => w'.cell? ⟨gb472, 0, none⟩ = some (.int .i64 a0_0) ∧ w'.cell? ⟨gb472, 1, none⟩ = some (.slice A0_1 l0_1.length c0_1)) (ds := []) #[false, false, false, false, false, false, false, false, false, false, false, false, false, false] (by kernel_rfl) rfl rfl ⟨(blk_cell BK472.out 0).trans rfl, (blk_cell BK472.out 1).trans rfl⟩ (fun hHeld => ?_); refine with_tabW impl_Has.tab1 impl_Has.bits1 (fun HT_ HW_ => ?_)
   generalize w10.drew = w11 at BK472 HB hHeld ⊢
   refine PU (i := 0) (N := some 5) (tf 1 13) rfl rfl HT_ ?_
   refine PU (i := 1) (N := some 6) (tf 2 12) rfl rfl HT_ ?_
   refine PU (i := 2) (N := some 7) (tf 3 11) rfl rfl HT_ ?_
   refine PT (i := 3) (N := some 8) (tf 4 10) rfl rfl HT_ HW_ hHeld ?_
   refine one_ (i := 4) (N := some 9) (tf 5 9) rfl rfl (one_of HT_.out (by kernel_rfl)) (by decide) (fun K hK => ?_)
   refine goes_ Try.func7 (by kernel_rfl) rfl #[.agg #[.int .i64 a0_0, .slice A0_1 l0_1.length c0_1]] (by rfl) rfl rfl AQ ?_
   with_reducible refine (impl_TableOk.calls k a0_0 _ _ l0_1 true _ ?side1 ?side2 A6.out).mono ?_
   (case side1 => exact SC HR0_1)
   (case side2 => exact HC0_1.out)
   rintro e w12 ⟨rfl, hb⟩
   refine ⟨_, rfl, ?_⟩
   have n_ : _ ∧ _ := ⟨AsM (blk_below (BD BK472) hb), AsM (below_step BG hb)⟩
   clear BK472 HB
   obtain ⟨BK472, HB⟩ := n_
   (try clear hb)
   (try clear hb2)
   (try clear hk)
   (try clear hi)
   refine hK.out _ _ ⟨(blk_cell BK472.out 0).trans rfl, (blk_cell BK472.out 1).trans rfl⟩ (fun hHeld => ?_)
   clear hK K
   refine NM (some 9) ?_
   refine PU (i := 5) (N := some 10) (tf 6 8) rfl rfl HT_ ?_
   refine PU (i := 6) (N := some 11) (tf 7 7) rfl rfl HT_ ?_
   refine PU (i := 7) (N := some 12) (tf 8 6) rfl rfl HT_ ?_
   refine PU (i := 9) (N := some 14) #[true, true, true, true, true, true, true, true, false, true, false, false, false, false] rfl rfl HT_ ?_
   refine PT (i := 8) (N := some 13) (tf 10 4) rfl rfl HT_ HW_ hHeld ?_
   refine one_ (i := 10) (N := some 15) (tf 11 3) rfl rfl (one_of HT_.out (by kernel_rfl)) (by decide) (fun K hK => ?_)
   refine goes_ Try.func27 (by kernel_rfl) rfl #[.string a1] (by rfl) rfl rfl AQ ?_
   with_reducible refine (impl_entryOf.calls k a1 t474 t475 _ A8.out).mono ?_
   rintro e w13 ⟨rfl, hb⟩
   refine ⟨_, rfl, ?_⟩
   have n_ : _ ∧ _ := ⟨AsM (blk_below (BD BK472) hb), AsM (below_step BG hb)⟩
   clear BK472 HB
   obtain ⟨BK472, HB⟩ := n_
   (try clear hb)
   (try clear hb2)
   (try clear hk)
   (try clear hi)
   refine hK.out _ _ ⟨(blk_cell BK472.out 0).trans rfl, (blk_cell BK472.out 1).trans rfl⟩ (fun hHeld => ?_)
   clear hK K
   refine NM (some 15) ?_
   refine one_ (i := 11) (N := some 16) (tf 12 2) rfl rfl (one_of HT_.out (by kernel_rfl)) (by decide) (fun K hK => ?_)
   refine goes_ Try.func32 (by kernel_rfl) rfl #[.slice A0_1 l0_1.length c0_1, .agg #[.int .i64 t474, .string t475]] (by rfl) rfl rfl AQ ?_
   with_reducible refine (slices_Contains_impl_Entry_impl_Entry.calls k _ _ l0_1 t474 t475 t476 _ ?side1 ?side2 A9.out).mono ?_
   (case side1 => exact SC HR0_1)
   (case side2 => exact HC0_1.out)
   rintro e w14 ⟨rfl, hb⟩
   refine ⟨_, rfl, ?_⟩
   have n_ : _ ∧ _ := ⟨AsM (blk_below (BD BK472) hb), AsM (below_step BG hb)⟩
   clear BK472 HB
   obtain ⟨BK472, HB⟩ := n_
   (try clear hb)
   (try clear hb2)
   (try clear hk)
   (try clear hi)
   refine hK.out _ _ ⟨(blk_cell BK472.out 0).trans rfl, (blk_cell BK472.out 1).trans rfl⟩ (fun hHeld => ?_)
   clear hK K
   refine NM (some 16) ?_
   refine PU (i := 12) (N := some 17) (tf 13 1) rfl rfl HT_ ?_
   refine PU (i := 13) (N := some 4) (tf 14 0) rfl rfl HT_ ?_
   refine done_ (done_of HT_.out (by kernel_rfl)) ?_
   try go_wp2
   go_ret
   exact ⟨ER, BG⟩
  ·replace c7 := Bool.eq_false_iff.mpr c7
   subst c7
   replace H := IN H
   obtain rfl := Option.some.inj H
   go_enter Try.func10, Try.ntmps10
   try go_wp2_with (first | ((with_reducible refine gate_dst (N := 2) rfl ?_); refine box_event ?hg (N := 2) ?hd (cs := #[.int .i64 a0_0, .slice A0_1 l0_1.length c0_1]) (t := 25) ?hr ?_; (case hd => rfl); (case hg => rfl); (case hr => first | (go_simp; done) | (go_simp; rfl)); intro gb472 hg w15 hbox hb; have n_ : _ ∧ _ ∧ _ ∧ _ := ⟨AsM (below_step BL hb), AsM (hbox), AsM ((GL : w.heap.size ≤ gb472)), AsM ((GL : w.heap.size ≤ gb472))⟩; clear HB; obtain ⟨HB, BK472, GW472, GE472⟩ := n_; clear hb hbox hg))
   have n_ : _ ∧ _ := ⟨AsM (blk_drew BK472.out), AsM (below_drew1 HB.out)⟩
   clear BK472 HB
   obtain ⟨BK472, HB⟩ := n_
   refine start_ (n := 14) (S := fun w' => w'.cell? ⟨gb472, 0, none⟩ = some (.int .i64 a0_0) ∧ w'.cell? ⟨gb472, 1, none⟩ = some (.slice A0_1 l0_1.length c0_1)) (ds := []) #[false, false, false, false, false, false, false, false, false, false, false, false, false, false] (by kernel_rfl) rfl rfl ⟨(blk_cell BK472.out 0).trans rfl, (blk_cell BK472.out 1).trans rfl⟩ (fun hHeld => ?_); refine with_tabW impl_Has.tab1 impl_Has.bits1 (fun HT_ HW_ => ?_)
   generalize w15.drew = w16 at BK472 HB hHeld ⊢
   refine PU (i := 0) (N := some 5) (tf 1 13) rfl rfl HT_ ?_
   refine PU (i := 1) (N := some 6) (tf 2 12) rfl rfl HT_ ?_
   refine PU (i := 2) (N := some 7) (tf 3 11) rfl rfl HT_ ?_
   refine PT (i := 3) (N := some 8) (tf 4 10) rfl rfl HT_ HW_ hHeld ?_
   refine one_ (i := 4) (N := some 9) (tf 5 9) rfl rfl (one_of HT_.out (by kernel_rfl)) (by decide) (fun K hK => ?_)
   refine goes_ Try.func7 (by kernel_rfl) rfl #[.agg #[.int .i64 a0_0, .slice A0_1 l0_1.length c0_1]] (by rfl) rfl rfl AQ ?_
   with_reducible refine (impl_TableOk.calls k a0_0 _ _ l0_1 false _ ?side1 ?side2 A6.out).mono ?_
   (case side1 => exact SC HR0_1)
   (case side2 => exact HC0_1.out)
   rintro e w17 ⟨rfl, hb⟩
   refine ⟨_, rfl, ?_⟩
   have n_ : _ ∧ _ := ⟨AsM (blk_below (BD BK472) hb), AsM (below_step BG hb)⟩
   clear BK472 HB
   obtain ⟨BK472, HB⟩ := n_
   (try clear hb)
   (try clear hb2)
   (try clear hk)
   (try clear hi)
   refine hK.out _ _ ⟨(blk_cell BK472.out 0).trans rfl, (blk_cell BK472.out 1).trans rfl⟩ (fun hHeld => ?_)
   clear hK K
   refine NM (some 9) ?_
   refine PU (i := 5) (N := some 10) (tf 6 8) rfl rfl HT_ ?_
   refine PU (i := 6) (N := some 11) (tf 7 7) rfl rfl HT_ ?_
   refine PN (i := 7) (N := some 12) (tf 8 6) rfl rfl HT_ ?_
   refine PN (i := 8) (N := some 13) (tf 9 5) rfl rfl HT_ ?_
   refine PN (i := 9) (N := some 14) (tf 10 4) rfl rfl HT_ ?_
   refine PN (i := 10) (N := some 15) (tf 11 3) rfl rfl HT_ ?_
   refine PN (i := 11) (N := some 16) (tf 12 2) rfl rfl HT_ ?_
   refine PU (i := 12) (N := some 17) (tf 13 1) rfl rfl HT_ ?_
   refine PU (i := 13) (N := some 4) (tf 14 0) rfl rfl HT_ ?_
   refine done_ (done_of HT_.out (by kernel_rfl)) ?_
   try go_wp2
   go_ret
   exact ⟨ER, BG⟩
mutual
def impl_Add.j0 : Nat → ByteArray → Bool → Int → List (S49) → Option (Int × (List (S49)) × Bool)
 | 0, _, _, _, _ => none
 | k + 1, x1, x15, x549000, x549001 => if x15 = true then (some (0, ([] : List (S49)), false)) else ((impl_Hash.f k x1).bind fun t552 => ((impl_Bucket.f t552 x549000).bind fun t553 => ((impl_Table_opened.f k x549000 x549001 t553).bind fun bt554 => ((impl_Has.f k x549000 x549001 x1).bind fun t559 => (if t559 = true then (impl_Add.j1 k x1 true bt554.1 bt554.2) else ((impl_Table_keysIn.f k x549000 x549001).bind fun t560 => (impl_Add.j1 k x1 (t560 == 200) bt554.1 bt554.2)))))))
def impl_Add.j1 : Nat → ByteArray → Bool → Int → List (S49) → Option (Int × (List (S49)) × Bool)
 | 0, _, _, _, _ => none
 | k + 1, x1, x31, x559000, x559001 => if x31 = true then (some (x559000, x559001, false)) else ((impl_entryOf.f k x1).bind fun bt561 => ((impl_Table_with.f k x559000 x559001 bt561.1 bt561.2).bind fun bt563 => (some (bt563.1, bt563.2, true))))
end
def impl_Add.f (k : Nat) (a0_0 : Int) (l0_1 : List (S49)) (a1 : ByteArray) : Option (Int × (List (S49)) × Bool) := (impl_TableOk.f k a0_0 l0_1).bind fun t550 => (if t550 = true then ((impl_ItemOk.f k a1 (⟨#[]⟩ : ByteArray) 0).bind fun t551 => (impl_Add.j0 k a1 (!t551) a0_0 l0_1)) else (impl_Add.j0 k a1 true a0_0 l0_1))
theorem impl_Add.mono_l : ∀ k, (∀ y0 y1 y2 y3, LeO (impl_Add.j0 k y0 y1 y2 y3) (impl_Add.j0 (k + 1) y0 y1 y2 y3)) ∧ (∀ y0 y1 y2 y3, LeO (impl_Add.j1 k y0 y1 y2 y3) (impl_Add.j1 (k + 1) y0 y1 y2 y3))
 | 0 => ⟨fun _ _ _ _ r h => by simp [impl_Add.j0] at h, fun _ _ _ _ r h => by simp [impl_Add.j1] at h⟩
 | k + 1 => by
  obtain ⟨ih0, ih1⟩ := impl_Add.mono_l k
  refine ⟨?_, ?_⟩
  ·intro y0 y1 y2 y3
   unfold impl_Add.j0
   repeat' first | (with_reducible first | exact ih0 _ _ _ _ | exact ih1 _ _ _ _ | exact impl_Has.mono _ _ _ _ | exact impl_Hash.mono _ _ | exact impl_ItemOk.mono _ _ _ _ | exact impl_TableOk.mono _ _ _ | exact impl_Table_keysIn.mono _ _ _ | exact impl_Table_opened.mono _ _ _ _ | exact impl_Table_with.mono _ _ _ _ _ | exact impl_entryOf.mono _ _ | exact LeO.refl _ | exact LeO.none _ | refine LeO.ite ?_ ?_ | refine LeO.bind ?_ (fun _ => ?_)) | exact ih0 _ _ _ _ | exact ih1 _ _ _ _ | exact impl_Has.mono _ _ _ _ | exact impl_Hash.mono _ _ | exact impl_ItemOk.mono _ _ _ _ | exact impl_TableOk.mono _ _ _ | exact impl_Table_keysIn.mono _ _ _ | exact impl_Table_opened.mono _ _ _ _ | exact impl_Table_with.mono _ _ _ _ _ | exact impl_entryOf.mono _ _ | exact LeO.none _ | refine LeO.ite ?_ ?_ | refine LeO.bind ?_ (fun _ => ?_)
  ·intro y0 y1 y2 y3
   unfold impl_Add.j1
   repeat' first | (with_reducible first | exact ih0 _ _ _ _ | exact ih1 _ _ _ _ | exact impl_Has.mono _ _ _ _ | exact impl_Hash.mono _ _ | exact impl_ItemOk.mono _ _ _ _ | exact impl_TableOk.mono _ _ _ | exact impl_Table_keysIn.mono _ _ _ | exact impl_Table_opened.mono _ _ _ _ | exact impl_Table_with.mono _ _ _ _ _ | exact impl_entryOf.mono _ _ | exact LeO.refl _ | exact LeO.none _ | refine LeO.ite ?_ ?_ | refine LeO.bind ?_ (fun _ => ?_)) | exact ih0 _ _ _ _ | exact ih1 _ _ _ _ | exact impl_Has.mono _ _ _ _ | exact impl_Hash.mono _ _ | exact impl_ItemOk.mono _ _ _ _ | exact impl_TableOk.mono _ _ _ | exact impl_Table_keysIn.mono _ _ _ | exact impl_Table_opened.mono _ _ _ _ | exact impl_Table_with.mono _ _ _ _ _ | exact impl_entryOf.mono _ _ | exact LeO.none _ | refine LeO.ite ?_ ?_ | refine LeO.bind ?_ (fun _ => ?_)
theorem impl_Add.mono : ∀ a0 a1 a2 k, LeO (impl_Add.f k a0 a1 a2) (impl_Add.f (k + 1) a0 a1 a2) := by
 intro a0 a1 a2 k
 obtain ⟨ih0, ih1⟩ := impl_Add.mono_l k
 unfold impl_Add.f
 repeat' first | (with_reducible first | exact ih0 _ _ _ _ | exact ih1 _ _ _ _ | exact impl_Has.mono _ _ _ _ | exact impl_Hash.mono _ _ | exact impl_ItemOk.mono _ _ _ _ | exact impl_TableOk.mono _ _ _ | exact impl_Table_keysIn.mono _ _ _ | exact impl_Table_opened.mono _ _ _ _ | exact impl_Table_with.mono _ _ _ _ _ | exact impl_entryOf.mono _ _ | exact LeO.refl _ | exact LeO.none _ | refine LeO.ite ?_ ?_ | refine LeO.bind ?_ (fun _ => ?_)) | exact ih0 _ _ _ _ | exact ih1 _ _ _ _ | exact impl_Has.mono _ _ _ _ | exact impl_Hash.mono _ _ | exact impl_ItemOk.mono _ _ _ _ | exact impl_TableOk.mono _ _ _ | exact impl_Table_keysIn.mono _ _ _ | exact impl_Table_opened.mono _ _ _ _ | exact impl_Table_with.mono _ _ _ _ _ | exact impl_entryOf.mono _ _ | exact LeO.none _ | refine LeO.ite ?_ ?_ | refine LeO.bind ?_ (fun _ => ?_)
def impl_Add.T3 : Bool × List (List Nat × List Nat) := (true, [([], []), ([], []), ([1], [1]), ([], []), ([3], [3]), ([2, 4, 2], [2, 4]), ([0, 5, 5], [0, 5]), ([], []), ([7, 6, 6, 0, 1, 2, 3, 4, 5, 6, 7], [6, 7])])
def impl_Add.B3 : List Nat := [0, 0, 2, 0, 8, 30, 63, 0, 255]
theorem impl_Add.tab3 : rtab .any (opsOf Try.f13 3) = impl_Add.T3 := by kernel_rfl
theorem impl_Add.bits3 : waitsOk impl_Add.T3.2 impl_Add.B3 = true := by kernel_rfl
theorem impl_Add.z0 {P : Prop} (h : P := by simp only [putAll, Act.put, List.setIfInBounds_toArray, List.set_cons_zero, List.set_cons_succ]) : P := h
theorem impl_Add.z1 {P : Prop} (h : P := by rw [hg]; exact Nat.ne_of_lt (blk_lt (BD BK548))) : P := h
theorem impl_Add.z2 {P : Prop} (h : P := by rw [hg]; exact Nat.ne_of_gt (blk_lt (BD BK548))) : P := h
theorem impl_Add.z3 {P : Prop} (h : P := by rw [hg]; exact Nat.ne_of_lt (blk_lt (BD BK549))) : P := h
theorem impl_Add.z4 {P : Prop} (h : P := by rw [hg]; exact Nat.ne_of_gt (blk_lt (BD BK549))) : P := h
set_option maxHeartbeats 8000000 in
set_option maxRecDepth 100000 in
theorem impl_Add.calls (k : Nat) (a0_0 : Int) (A0_1 : Option Addr) (c0_1 : Nat) (l0_1 : List (S49)) (a1 : ByteArray) (r1 : Int) (r2 : List (S49)) (r3 : Bool) (w : World) (hr0_1 : Kd.C k49 w A0_1 l0_1.length l0_1) (hc0_1 : l0_1.length ≤ c0_1) (h : impl_Add.f k a0_0 l0_1 a1 = some (r1, r2, r3)) :
  Calls Try.prog 13 #[.agg #[.int .i64 a0_0, .slice A0_1 l0_1.length c0_1], .string a1] w fun e w' => ∃ v1_ : Value, e = .returned (.tuple #[.agg #[.int .i64 r1, v1_], .bool r3]) ∧ Kd.R k49 49 w' w.heap.size (fun _ => True) v1_ r2 ∧ Below w.heap.size w w' := by
 have hu25 := Try.underlying25
 have hu55 := Try.underlying55
 have HR0_1 := Aside0.mk hr0_1
 have HC0_1 := Aside0.mk hc0_1
 clear hr0_1 hc0_1
 have HB := Aside0.mk (Below.refl w.heap.size w)
 have H : ((impl_TableOk.f k a0_0 l0_1).bind fun t550 => (if t550 = true then ((impl_ItemOk.f k a1 (⟨#[]⟩ : ByteArray) 0).bind fun t551 => (impl_Add.j0 k a1 (!t551) a0_0 l0_1)) else (impl_Add.j0 k a1 true a0_0 l0_1))) = some (r1, r2, r3) := h
 clear h
 have HC3 := Aside0.mk H
 clear H
 go_enter Try.func13, Try.ntmps13
 go_upto_region 1 with (first | ((with_reducible refine gate_dst (N := 2) rfl ?_); refine box_event ?hg (N := 2) ?hd (cs := #[.int .i64 a0_0, .slice A0_1 l0_1.length c0_1]) (t := 25) ?hr ?_; (case hd => rfl); (case hg => rfl); (case hr => first | (go_simp; done) | (go_simp; rfl)); intro gb548 hg w4 hbox hb; have n_ : _ ∧ _ ∧ _ ∧ _ := ⟨AsM (below_step BL hb), AsM (hbox), AsM ((GL : w.heap.size ≤ gb548)), AsM ((GL : w.heap.size ≤ gb548))⟩; clear HB; obtain ⟨HB, BK548, GW548, GE548⟩ := n_; clear hb hbox hg) | ((with_reducible refine gate_dst (N := 4) rfl ?_); refine box_event ?hg (N := 4) ?hd (cs := #[.int .i64 0, .slice none 0 0]) (t := 25) ?hr ?_; (case hd => rfl); (case hg => rfl); (case hr => first | (go_simp; done) | (go_simp; rfl)); intro gb549 hg w5 hbox hb; have n_ : _ ∧ _ ∧ _ ∧ _ ∧ _ ∧ _ ∧ _ := ⟨AsM (blk_below (BD BK548) hb), AsM (below_step BG hb), AsM (hbox), AsM ((GM : w.heap.size ≤ gb549)), AsM ((GM : w.heap.size ≤ gb549)), AsM ((impl_Add.z1 : gb548 ≠ gb549)), AsM ((impl_Add.z2 : gb549 ≠ gb548))⟩; clear BK548 HB; obtain ⟨BK548, HB, BK549, GW549, GE549, NB548_549, NB549_548⟩ := n_; clear hb hbox hg))
 (try simp only [Act.put, List.setIfInBounds_toArray, List.set_cons_zero, List.set_cons_succ])
 go_cut [15] (fun v15 wc => ∃ (kq : Nat) (x15_2 : Bool), v15 = .bool x15_2 ∧ Aside0 (impl_Add.j0 kq a1 x15_2 a0_0 l0_1 = some (r1, r2, r3)) ∧ Aside0 (kq ≤ k) ∧ Aside0 (wc.heap[gb548]? = some (.cells #[.int .i64 a0_0, (.slice A0_1 l0_1.length c0_1)] 25 (0, 0))) ∧ Aside0 (wc.heap[gb549]? = some (.cells #[.int .i64 0, (.slice none 0 0)] 25 (0, 0))) ∧ Aside0 (Below w.heap.size w wc))
 case first =>
  have H := HC3.out
  clear HC3
  replace H := BS H
  obtain ⟨t550, A60, H⟩ := H
  have A6 := Aside0.mk A60
  clear A60
  by_cases c7 : t550 = true
  ·subst c7
   replace H := IP H
   replace H := BS H
   obtain ⟨t551, A80, H⟩ := H
   have A8 := Aside0.mk A80
   clear A80
   have H' := Aside0.mk H
   clear H
   have hnb9 := NB548_549.out
   have hnc9 := NB549_548.out
   obtain ⟨hcz10_0, hcz10_1, hfz10_0, hfz10_1⟩ := bk2 BK548.out
   go_wp2_with (first | ((with_reducible refine gate_callee (f := 7) rfl ?_); refine goesL_ (some 8) rfl rfl Try.func7 (by kernel_rfl) rfl #[.agg #[.int .i64 a0_0, .slice A0_1 l0_1.length c0_1]] rfl AQ ?_; (with_reducible refine (impl_TableOk.calls k a0_0 _ _ l0_1 true _ ?side1 ?side2 A6.out).mono ?_); (case side1 => exact SC HR0_1); (case side2 => exact HC0_1.out); rintro e w11 ⟨rfl, hb⟩; refine ⟨_, rfl, ?_⟩; have n_ : _ ∧ _ ∧ _ := ⟨AsM (blk_below (BD BK548) hb), AsM (blk_below (BD BK549) hb), AsM (below_step BG hb)⟩; clear BK548 BK549 HB; obtain ⟨BK548, BK549, HB⟩ := n_; (try clear hb); (try clear hb2); (try clear hk); (try clear hi)) | (go_at_call 26; (with_reducible refine (impl_ItemOk.calls k a1 (⟨#[]⟩ : ByteArray) 0 t551 _ A8.out).mono ?_); rintro e w12 ⟨rfl, hb⟩; have n_ : _ ∧ _ ∧ _ := ⟨AsM (blk_below (BD BK548) hb), AsM (blk_below (BD BK549) hb), AsM (below_step BG hb)⟩; clear BK548 BK549 HB; obtain ⟨BK548, BK549, HB⟩ := n_; (try clear hb); (try clear hb2); (try clear hk); (try clear hi)))
   go_meet
   case rel => exact ⟨_, (!t551), RS, H', ⟨by first | omega | exact Nat.le_refl _⟩, ⟨BD BK548⟩, ⟨BD BK549⟩, ⟨by repeat (first | (with_reducible first | exact HB.out | apply below_alloc | apply pw_below_drewN | apply below_drew1 | refine below_set ?_ GE548.out | refine below_set ?_ GE549.out) | exact HB.out)⟩⟩
  ·replace c7 := Bool.eq_false_iff.mpr c7
   subst c7
   replace H := IN H
   have H' := Aside0.mk H
   clear H
   have hnb13 := NB548_549.out
   have hnc13 := NB549_548.out
   obtain ⟨hcz14_0, hcz14_1, hfz14_0, hfz14_1⟩ := bk2 BK548.out
   go_wp2_with (first | ((with_reducible refine gate_callee (f := 7) rfl ?_); refine goesL_ (some 8) rfl rfl Try.func7 (by kernel_rfl) rfl #[.agg #[.int .i64 a0_0, .slice A0_1 l0_1.length c0_1]] rfl AQ ?_; (with_reducible refine (impl_TableOk.calls k a0_0 _ _ l0_1 false _ ?side1 ?side2 A6.out).mono ?_); (case side1 => exact SC HR0_1); (case side2 => exact HC0_1.out); rintro e w15 ⟨rfl, hb⟩; refine ⟨_, rfl, ?_⟩; have n_ : _ ∧ _ ∧ _ := ⟨AsM (blk_below (BD BK548) hb), AsM (blk_below (BD BK549) hb), AsM (below_step BG hb)⟩; clear BK548 BK549 HB; obtain ⟨BK548, BK549, HB⟩ := n_; (try clear hb); (try clear hb2); (try clear hk); (try clear hi)))
   go_meet
   case rel => exact ⟨_, (true), RS, H', ⟨by first | omega | exact Nat.le_refl _⟩, ⟨BD BK548⟩, ⟨BD BK549⟩, ⟨by repeat (first | (with_reducible first | exact HB.out | apply below_alloc | apply pw_below_drewN | apply below_drew1 | refine below_set ?_ GE548.out | refine below_set ?_ GE549.out) | exact HB.out)⟩⟩
 case rest =>
  clear HC3
  try clear c1
  try clear p2
  try clear c7
  try clear c9
  try clear c13
  try clear hcz10_0
  try clear hcz10_1
  try clear hcz14_0
  try clear hcz14_1
  try clear hfz10_0
  try clear hfz10_1
  try clear hfz14_0
  try clear hfz14_1
  obtain ⟨kq, x15_2, rfl, HA, HJ2, BK548, BK549, HB⟩ := hcut
  cases kq with
  | zero => exact absurd HA.out (by simp [impl_Add.j0])
  | succ kj2 =>
   have H := HA.out
   clear HA
   simp only [impl_Add.j0] at H
   by_cases c16 : x15_2 = true
   ·subst c16
    replace H := IP H
    simp only [Option.some.injEq, Prod.mk.injEq] at H
    obtain ⟨rfl, rfl, rfl⟩ := H
    have hnb17 := NB549_548.out
    have hnc17 := NB548_549.out
    obtain ⟨hcz18_0, hcz18_1, hfz18_0, hfz18_1⟩ := bk2 BK549.out
    go_wp2
    refine bodyPost_ret (results_ct rfl _ _ gb549 25 #[.int .i64 0, .slice none 0 0] (0, 0) _ rfl (by refine PX ?_; refine blk_put (cs := #[.int .i64 0, .slice none 0 0]) ?_ 1 _ rfl; refine PX ?_; refine blk_put (cs := #[.int .i64 0, .slice none 0 0]) ?_ 0 _ rfl; exact BD BK549) Try.underlying25 rfl (by kernel_rfl)) rfl ?_
    exact ⟨_, ER, by first | exact Kd.R_nil _ _ _ _ _ | exact Kd.N_nil _ _ _ _ _ | exact Kd.V_nil _ _ _ _ _ | exact Kd.Q_nil _ _ _ _ _ | exact Kd.S_nil _ _ _ _ _, BG⟩
   ·replace c16 := Bool.eq_false_iff.mpr c16
    subst c16
    replace H := IN H
    replace H := BS H
    obtain ⟨t552, A190, H⟩ := H
    have A19 := Aside0.mk A190
    clear A190
    replace H := BS H
    obtain ⟨t553, A200, H⟩ := H
    have A20 := Aside0.mk A200
    clear A200
    replace H := BS H
    obtain ⟨⟨t554, t555⟩, A210, H⟩ := H
    have A21 := Aside0.mk A210
    clear A210
    have HC22 := Aside0.mk H
    clear H
    try go_wp2
    have n_ : _ ∧ _ ∧ _ := ⟨AsM (blk_drew BK548.out), AsM (blk_drew BK549.out), AsM (below_drew1 HB.out)⟩
    clear BK548 BK549 HB
    obtain ⟨BK548, BK549, HB⟩ := n_
    refine start_ (n := 9) (S := fun w' => w'.cell? ⟨gb548, 0, none⟩ = some (.int .i64 a0_0) ∧ w'.cell? ⟨gb548, 1, none⟩ = some (.slice A0_1 l0_1.length c0_1)) (ds := []) #[false, false, false, false, false, false, false, false, false] (by kernel_rfl) rfl rfl ⟨(blk_cell BK548.out 0).trans rfl, (blk_cell BK548.out 1).trans rfl⟩ (fun hHeld => ?_); refine with_tabW impl_Add.tab3 impl_Add.bits3 (fun HT_ HW_ => ?_)
    generalize wc.drew = w23 at BK548 BK549 HB hHeld ⊢
    refine PU (i := 1) (N := some 18) #[false, true, false, false, false, false, false, false, false] rfl rfl HT_ ?_
    refine PU (i := 3) (N := some 20) #[false, true, false, true, false, false, false, false, false] rfl rfl HT_ ?_
    refine PT (i := 0) (N := some 17) #[true, true, false, true, false, false, false, false, false] rfl rfl HT_ HW_ hHeld ?_
    refine PT (i := 4) (N := some 21) #[true, true, false, true, true, false, false, false, false] rfl rfl HT_ HW_ hHeld ?_
    refine join_ (σ := Value × Nat) 1 #[true, true, true, true, true, true, true, true, false] (fun s_ => [(19, .int .i64 t552), (22, .int .i64 t553), (23, .agg #[.int .i64 t554, s_.1]), (6, .pointer (some ⟨s_.2, 0, none⟩))]) (fun s_ w' => (w'.cell? ⟨gb548, 0, none⟩ = some (.int .i64 a0_0) ∧ w'.cell? ⟨gb548, 1, none⟩ = some (.slice A0_1 l0_1.length c0_1)) ∧ (Kd.R k49 49 w' w.heap.size (fun _ => True) s_.1 t555) ∧ (w'.heap[gb548]? = some (.cells #[.int .i64 a0_0, .slice A0_1 l0_1.length c0_1] 25 (0, 0))) ∧ (w'.heap[gb549]? = some (.cells #[.int .i64 0, .slice none 0 0] 25 (0, 0))) ∧ (w'.heap[s_.2]? = some (.cells #[.int .i64 0, .slice none 0 0] 25 (0, 0))) ∧ (w.heap.size ≤ s_.2) ∧ (w.heap.size ≤ s_.2) ∧ (gb548 ≠ s_.2) ∧ (s_.2 ≠ gb548) ∧ (gb549 ≠ s_.2) ∧ (s_.2 ≠ gb549) ∧ (Below w.heap.size w w')) ?_ ?_
    rotate_left
    ·intro hCont
     refine two_ (i := 2) (j := 7) (Ni := some 19) (Nj := some 6) #[true, true, true, true, true, false, false, false, false] #[true, true, false, true, true, false, false, true, false] rfl rfl rfl rfl (two_of HT_.out (by kernel_rfl)) (by decide) (by decide) (fun K hK => ?_) (fun K hK => ?_)
     ·skip
      refine goes_ Try.func19 (by kernel_rfl) rfl #[.string a1] (by rfl) rfl rfl AQ ?_
      with_reducible refine (impl_Hash.calls kj2 a1 t552 _ A19.out).mono ?_
      rintro e w' ⟨rfl, ⟨nd, rfl⟩⟩
      refine ⟨_, rfl, ?_⟩
      refine hK.out _ _ ⟨(blk_cell BK548.out 0).trans rfl, (blk_cell BK548.out 1).trans rfl⟩ (fun hHeld => ?_)
      clear hK K
      refine NM (some 19) ?_
      refine two_ (i := 5) (j := 7) (Ni := some 22) (Nj := some 6) #[true, true, true, true, true, true, false, false, false] #[true, true, true, true, true, false, false, true, false] rfl rfl rfl rfl (two_of HT_.out (by kernel_rfl)) (by decide) (by decide) (fun K hK => ?_) (fun K hK => ?_)
      ·skip
       refine goes_ Try.func18 (by kernel_rfl) rfl #[.int .i64 t552, .int .i64 a0_0] (by rfl) rfl rfl AQ ?_
       with_reducible refine (impl_Bucket.calls t552 a0_0 t553 _ A20.out).mono ?_
       rintro e w' ⟨rfl, ⟨nd, rfl⟩⟩
       refine ⟨_, rfl, ?_⟩
       refine hK.out _ _ ⟨(blk_cell BK548.out 0).trans rfl, (blk_cell BK548.out 1).trans rfl⟩ (fun hHeld => ?_)
       clear hK K
       refine NM (some 22) ?_
       refine two_ (i := 6) (j := 7) (Ni := some 23) (Nj := some 6) #[true, true, true, true, true, true, true, false, false] #[true, true, true, true, true, true, false, true, false] rfl rfl rfl rfl (two_of HT_.out (by kernel_rfl)) (by decide) (by decide) (fun K hK => ?_) (fun K hK => ?_)
       ·skip
        refine goes_ Try.func36 (by kernel_rfl) rfl #[.agg #[.int .i64 a0_0, .slice A0_1 l0_1.length c0_1], .int .i64 t553] (by rfl) rfl rfl AQ ?_
        with_reducible refine (impl_Table_opened.calls kj2 a0_0 _ _ l0_1 t553 t554 t555 _ ?side1 ?side2 A21.out).mono ?_
        (case side1 => repeat (first | exact (Kd.C_below HR0_1.out BG) | (with_reducible refine Kd.C_alloc ?_ _) | (with_reducible refine Kd.C_drewN ?_ _) | (with_reducible refine Kd.C_drew ?_)))
        (case side2 => exact HC0_1.out)
        rintro e w24 ⟨v556, rfl, ho0, hb⟩
        refine ⟨_, rfl, ?_⟩
        have n_ : _ ∧ _ ∧ _ ∧ _ := ⟨AsM (Kd.R_lower ho0 (below_size BG)), AsM (blk_below (BD BK548) hb), AsM (blk_below (BD BK549) hb), AsM (below_step BG hb)⟩
        clear BK548 BK549 HB
        obtain ⟨HO557, BK548, BK549, HB⟩ := n_
        (try clear hb)
        (try clear hb2)
        (try clear hk)
        (try clear hi)
        (try clear ho0)
        refine hK.out _ _ ⟨(blk_cell BK548.out 0).trans rfl, (blk_cell BK548.out 1).trans rfl⟩ (fun hHeld => ?_)
        clear hK K
        refine NM (some 23) ?_
        refine one_ (i := 7) (N := some 6) (tf 8 1) rfl rfl (one_of HT_.out (by kernel_rfl)) (by decide) (fun K hK => ?_)
        refine box_step ?hg (N := 6) ?hd (cs := #[.int .i64 0, .slice none 0 0]) (t := 25) ?hr ?_; (case hd => rfl); (case hg => rfl); (case hr => first | (go_simp; done) | (go_simp; rfl))
        intro gb558 hg w25 hbox hb
        have n_ : _ ∧ _ ∧ _ ∧ _ ∧ _ ∧ _ ∧ _ ∧ _ ∧ _ ∧ _ ∧ _ := ⟨AsM (Kd.R_below (RD HO557) hb), AsM (blk_below (BD BK548) hb), AsM (blk_below (BD BK549) hb), AsM (below_step BG hb), AsM (hbox), AsM ((GM : w.heap.size ≤ gb558)), AsM ((GM : w.heap.size ≤ gb558)), AsM ((impl_Add.z1 : gb548 ≠ gb558)), AsM ((impl_Add.z2 : gb558 ≠ gb548)), AsM ((impl_Add.z3 : gb549 ≠ gb558)), AsM ((impl_Add.z4 : gb558 ≠ gb549))⟩
        clear HO557 BK548 BK549 HB
        obtain ⟨HO557, BK548, BK549, HB, BK558, GW558, GE558, NB548_558, NB558_548, NB549_558, NB558_549⟩ := n_
        clear hb hbox hg
        refine hK.out _ _ ⟨(blk_cell BK548.out 0).trans rfl, (blk_cell BK548.out 1).trans rfl⟩ (fun hHeld => ?_)
        clear hK K
        refine NM (some 6) ?_
        exact norm_ (impl_Add.z0) (hCont (v556, gb558) _ ⟨hHeld, (RD HO557), (BD BK548), (BD BK549), (BD BK558), GW558.out, GE558.out, NB548_558.out, NB558_548.out, NB549_558.out, NB558_549.out, BG⟩)
       ·skip
        refine box_step ?hg (N := 6) ?hd (cs := #[.int .i64 0, .slice none 0 0]) (t := 25) ?hr ?_; (case hd => rfl); (case hg => rfl); (case hr => first | (go_simp; done) | (go_simp; rfl))
        intro gb558 hg w24 hbox hb
        have n_ : _ ∧ _ ∧ _ ∧ _ ∧ _ ∧ _ ∧ _ ∧ _ ∧ _ ∧ _ := ⟨AsM (blk_below (BD BK548) hb), AsM (blk_below (BD BK549) hb), AsM (below_step BG hb), AsM (hbox), AsM ((GM : w.heap.size ≤ gb558)), AsM ((GM : w.heap.size ≤ gb558)), AsM ((impl_Add.z1 : gb548 ≠ gb558)), AsM ((impl_Add.z2 : gb558 ≠ gb548)), AsM ((impl_Add.z3 : gb549 ≠ gb558)), AsM ((impl_Add.z4 : gb558 ≠ gb549))⟩
        clear BK548 BK549 HB
        obtain ⟨BK548, BK549, HB, BK558, GW558, GE558, NB548_558, NB558_548, NB549_558, NB558_549⟩ := n_
        clear hb hbox hg
        refine hK.out _ _ ⟨(blk_cell BK548.out 0).trans rfl, (blk_cell BK548.out 1).trans rfl⟩ (fun hHeld => ?_)
        clear hK K
        refine NM (some 6) ?_
        refine one_ (i := 6) (N := some 23) (tf 8 1) rfl rfl (one_of HT_.out (by kernel_rfl)) (by decide) (fun K hK => ?_)
        refine goes_ Try.func36 (by kernel_rfl) rfl #[.agg #[.int .i64 a0_0, .slice A0_1 l0_1.length c0_1], .int .i64 t553] (by rfl) rfl rfl AQ ?_
        with_reducible refine (impl_Table_opened.calls kj2 a0_0 _ _ l0_1 t553 t554 t555 _ ?side1 ?side2 A21.out).mono ?_
        (case side1 => exact SC HR0_1)
        (case side2 => exact HC0_1.out)
        rintro e w25 ⟨v556, rfl, ho0, hb⟩
        refine ⟨_, rfl, ?_⟩
        have n_ : _ ∧ _ ∧ _ ∧ _ ∧ _ := ⟨AsM (Kd.R_lower ho0 (below_size BG)), AsM (blk_below (BD BK548) hb), AsM (blk_below (BD BK549) hb), AsM (blk_below (BD BK558) hb), AsM (below_step BG hb)⟩
        clear BK548 BK549 BK558 HB
        obtain ⟨HO557, BK548, BK549, BK558, HB⟩ := n_
        (try clear hb)
        (try clear hb2)
        (try clear hk)
        (try clear hi)
        (try clear ho0)
        refine hK.out _ _ ⟨(blk_cell BK548.out 0).trans rfl, (blk_cell BK548.out 1).trans rfl⟩ (fun hHeld => ?_)
        clear hK K
        refine NM (some 23) ?_
        exact norm_ (impl_Add.z0) (hCont (v556, gb558) _ ⟨hHeld, (RD HO557), (BD BK548), (BD BK549), (BD BK558), GW558.out, GE558.out, NB548_558.out, NB558_548.out, NB549_558.out, NB558_549.out, BG⟩)
      ·skip
       refine box_step ?hg (N := 6) ?hd (cs := #[.int .i64 0, .slice none 0 0]) (t := 25) ?hr ?_; (case hd => rfl); (case hg => rfl); (case hr => first | (go_simp; done) | (go_simp; rfl))
       intro gb558 hg w24 hbox hb
       have n_ : _ ∧ _ ∧ _ ∧ _ ∧ _ ∧ _ ∧ _ ∧ _ ∧ _ ∧ _ := ⟨AsM (blk_below (BD BK548) hb), AsM (blk_below (BD BK549) hb), AsM (below_step BG hb), AsM (hbox), AsM ((GM : w.heap.size ≤ gb558)), AsM ((GM : w.heap.size ≤ gb558)), AsM ((impl_Add.z1 : gb548 ≠ gb558)), AsM ((impl_Add.z2 : gb558 ≠ gb548)), AsM ((impl_Add.z3 : gb549 ≠ gb558)), AsM ((impl_Add.z4 : gb558 ≠ gb549))⟩
       clear BK548 BK549 HB
       obtain ⟨BK548, BK549, HB, BK558, GW558, GE558, NB548_558, NB558_548, NB549_558, NB558_549⟩ := n_
       clear hb hbox hg
       refine hK.out _ _ ⟨(blk_cell BK548.out 0).trans rfl, (blk_cell BK548.out 1).trans rfl⟩ (fun hHeld => ?_)
       clear hK K
       refine NM (some 6) ?_
       refine one_ (i := 5) (N := some 22) #[true, true, true, true, true, true, false, true, false] rfl rfl (one_of HT_.out (by kernel_rfl)) (by decide) (fun K hK => ?_)
       refine goes_ Try.func18 (by kernel_rfl) rfl #[.int .i64 t552, .int .i64 a0_0] (by rfl) rfl rfl AQ ?_
       with_reducible refine (impl_Bucket.calls t552 a0_0 t553 _ A20.out).mono ?_
       rintro e w' ⟨rfl, ⟨nd, rfl⟩⟩
       refine ⟨_, rfl, ?_⟩
       refine hK.out _ _ ⟨(blk_cell BK548.out 0).trans rfl, (blk_cell BK548.out 1).trans rfl⟩ (fun hHeld => ?_)
       clear hK K
       refine NM (some 22) ?_
       refine one_ (i := 6) (N := some 23) (tf 8 1) rfl rfl (one_of HT_.out (by kernel_rfl)) (by decide) (fun K hK => ?_)
       refine goes_ Try.func36 (by kernel_rfl) rfl #[.agg #[.int .i64 a0_0, .slice A0_1 l0_1.length c0_1], .int .i64 t553] (by rfl) rfl rfl AQ ?_
       with_reducible refine (impl_Table_opened.calls kj2 a0_0 _ _ l0_1 t553 t554 t555 _ ?side1 ?side2 A21.out).mono ?_
       (case side1 => repeat (first | exact (Kd.C_below HR0_1.out BG) | (with_reducible refine Kd.C_alloc ?_ _) | (with_reducible refine Kd.C_drewN ?_ _) | (with_reducible refine Kd.C_drew ?_)))
       (case side2 => exact HC0_1.out)
       rintro e w25 ⟨v556, rfl, ho0, hb⟩
       refine ⟨_, rfl, ?_⟩
       have n_ : _ ∧ _ ∧ _ ∧ _ ∧ _ := ⟨AsM (Kd.R_lower ho0 (below_size BG)), AsM (blk_below (BD BK548) hb), AsM (blk_below (BD BK549) hb), AsM (blk_below (BD BK558) hb), AsM (below_step BG hb)⟩
       clear BK548 BK549 BK558 HB
       obtain ⟨HO557, BK548, BK549, BK558, HB⟩ := n_
       (try clear hb)
       (try clear hb2)
       (try clear hk)
       (try clear hi)
       (try clear ho0)
       refine hK.out _ _ ⟨(blk_cell BK548.out 0).trans rfl, (blk_cell BK548.out 1).trans rfl⟩ (fun hHeld => ?_)
       clear hK K
       refine NM (some 23) ?_
       exact norm_ (impl_Add.z0) (hCont (v556, gb558) _ ⟨hHeld, (RD HO557), (BD BK548), (BD BK549), (BD BK558), GW558.out, GE558.out, NB548_558.out, NB558_548.out, NB549_558.out, NB558_549.out, BG⟩)
     ·skip
      refine box_step ?hg (N := 6) ?hd (cs := #[.int .i64 0, .slice none 0 0]) (t := 25) ?hr ?_; (case hd => rfl); (case hg => rfl); (case hr => first | (go_simp; done) | (go_simp; rfl))
      intro gb558 hg w24 hbox hb
      have n_ : _ ∧ _ ∧ _ ∧ _ ∧ _ ∧ _ ∧ _ ∧ _ ∧ _ ∧ _ := ⟨AsM (blk_below (BD BK548) hb), AsM (blk_below (BD BK549) hb), AsM (below_step BG hb), AsM (hbox), AsM ((GM : w.heap.size ≤ gb558)), AsM ((GM : w.heap.size ≤ gb558)), AsM ((impl_Add.z1 : gb548 ≠ gb558)), AsM ((impl_Add.z2 : gb558 ≠ gb548)), AsM ((impl_Add.z3 : gb549 ≠ gb558)), AsM ((impl_Add.z4 : gb558 ≠ gb549))⟩
      clear BK548 BK549 HB
      obtain ⟨BK548, BK549, HB, BK558, GW558, GE558, NB548_558, NB558_548, NB549_558, NB558_549⟩ := n_
      clear hb hbox hg
      refine hK.out _ _ ⟨(blk_cell BK548.out 0).trans rfl, (blk_cell BK548.out 1).trans rfl⟩ (fun hHeld => ?_)
      clear hK K
      refine NM (some 6) ?_
      refine one_ (i := 2) (N := some 19) #[true, true, true, true, true, false, false, true, false] rfl rfl (one_of HT_.out (by kernel_rfl)) (by decide) (fun K hK => ?_)
      refine goes_ Try.func19 (by kernel_rfl) rfl #[.string a1] (by rfl) rfl rfl AQ ?_
      with_reducible refine (impl_Hash.calls kj2 a1 t552 _ A19.out).mono ?_
      rintro e w' ⟨rfl, ⟨nd, rfl⟩⟩
      refine ⟨_, rfl, ?_⟩
      refine hK.out _ _ ⟨(blk_cell BK548.out 0).trans rfl, (blk_cell BK548.out 1).trans rfl⟩ (fun hHeld => ?_)
      clear hK K
      refine NM (some 19) ?_
      refine one_ (i := 5) (N := some 22) #[true, true, true, true, true, true, false, true, false] rfl rfl (one_of HT_.out (by kernel_rfl)) (by decide) (fun K hK => ?_)
      refine goes_ Try.func18 (by kernel_rfl) rfl #[.int .i64 t552, .int .i64 a0_0] (by rfl) rfl rfl AQ ?_
      with_reducible refine (impl_Bucket.calls t552 a0_0 t553 _ A20.out).mono ?_
      rintro e w' ⟨rfl, ⟨nd, rfl⟩⟩
      refine ⟨_, rfl, ?_⟩
      refine hK.out _ _ ⟨(blk_cell BK548.out 0).trans rfl, (blk_cell BK548.out 1).trans rfl⟩ (fun hHeld => ?_)
      clear hK K
      refine NM (some 22) ?_
      refine one_ (i := 6) (N := some 23) (tf 8 1) rfl rfl (one_of HT_.out (by kernel_rfl)) (by decide) (fun K hK => ?_)
      refine goes_ Try.func36 (by kernel_rfl) rfl #[.agg #[.int .i64 a0_0, .slice A0_1 l0_1.length c0_1], .int .i64 t553] (by rfl) rfl rfl AQ ?_
      with_reducible refine (impl_Table_opened.calls kj2 a0_0 _ _ l0_1 t553 t554 t555 _ ?side1 ?side2 A21.out).mono ?_
      (case side1 => repeat (first | exact (Kd.C_below HR0_1.out BG) | (with_reducible refine Kd.C_alloc ?_ _) | (with_reducible refine Kd.C_drewN ?_ _) | (with_reducible refine Kd.C_drew ?_)))
      (case side2 => exact HC0_1.out)
      rintro e w25 ⟨v556, rfl, ho0, hb⟩
      refine ⟨_, rfl, ?_⟩
      have n_ : _ ∧ _ ∧ _ ∧ _ ∧ _ := ⟨AsM (Kd.R_lower ho0 (below_size BG)), AsM (blk_below (BD BK548) hb), AsM (blk_below (BD BK549) hb), AsM (blk_below (BD BK558) hb), AsM (below_step BG hb)⟩
      clear BK548 BK549 BK558 HB
      obtain ⟨HO557, BK548, BK549, BK558, HB⟩ := n_
      (try clear hb)
      (try clear hb2)
      (try clear hk)
      (try clear hi)
      (try clear ho0)
      refine hK.out _ _ ⟨(blk_cell BK548.out 0).trans rfl, (blk_cell BK548.out 1).trans rfl⟩ (fun hHeld => ?_)
      clear hK K
      refine NM (some 23) ?_
      exact norm_ (impl_Add.z0) (hCont (v556, gb558) _ ⟨hHeld, (RD HO557), (BD BK548), (BD BK549), (BD BK558), GW558.out, GE558.out, NB548_558.out, NB558_548.out, NB549_558.out, NB558_549.out, BG⟩)
    rintro ⟨v556, gb558⟩ w26 ⟨hS_, h0_, h1_, h2_, h3_, h4_, h5_, h6_, h7_, h8_, h9_, h10_⟩
    have n0_ : Aside0 (Kd.R k49 49 w26 w.heap.size (fun _ => True) v556 t555) := ⟨h0_⟩
    have n1_ : Aside0 (w26.heap[gb548]? = some (.cells #[.int .i64 a0_0, .slice A0_1 l0_1.length c0_1] 25 (0, 0))) := ⟨h1_⟩
    have n2_ : Aside0 (w26.heap[gb549]? = some (.cells #[.int .i64 0, .slice none 0 0] 25 (0, 0))) := ⟨h2_⟩
    have n3_ : Aside0 (w26.heap[gb558]? = some (.cells #[.int .i64 0, .slice none 0 0] 25 (0, 0))) := ⟨h3_⟩
    have n4_ : Aside0 (w.heap.size ≤ gb558) := ⟨h4_⟩
    have n5_ : Aside0 (w.heap.size ≤ gb558) := ⟨h5_⟩
    have n6_ : Aside0 (gb548 ≠ gb558) := ⟨h6_⟩
    have n7_ : Aside0 (gb558 ≠ gb548) := ⟨h7_⟩
    have n8_ : Aside0 (gb549 ≠ gb558) := ⟨h8_⟩
    have n9_ : Aside0 (gb558 ≠ gb549) := ⟨h9_⟩
    have n10_ : Aside0 (Below w.heap.size w w26) := ⟨h10_⟩
    clear BK548
    clear BK549
    clear HB
    clear h0_ h1_ h2_ h3_ h4_ h5_ h6_ h7_ h8_ h9_ h10_
    have HO557 := n0_
    have BK548 := n1_
    have BK549 := n2_
    have BK558 := n3_
    have GW558 := n4_
    have GE558 := n5_
    have NB548_558 := n6_
    have NB558_548 := n7_
    have NB549_558 := n8_
    have NB558_549 := n9_
    have HB := n10_
    clear n0_ n1_ n2_ n3_ n4_ n5_ n6_ n7_ n8_ n9_ n10_
    have hHeld : w26.cell? ⟨gb548, 0, none⟩ = some (.int .i64 a0_0) ∧ w26.cell? ⟨gb548, 1, none⟩ = some (.slice A0_1 l0_1.length c0_1) := hS_
    obtain ⟨Ao28, co28, eo28⟩ := Kd.R_slice HO557.out
    (first | subst eo28 | (injection eo28 with f1_ f2_ f3_; have f4_ := f1_.symm; have f5_ := f3_.symm; clear f1_ f2_ f3_; subst f4_; subst f5_))
    refine norm_ (a' := ?_) ?_ ?_
    rotate_left
    ·simp only [putAll, Act.put, List.setIfInBounds_toArray, List.set_cons_zero, List.set_cons_succ]
     rfl
    refine one_ (i := 8) (N := none) (tf 9 0) rfl rfl (one_of HT_.out (by kernel_rfl)) (by decide) (fun K hK => ?_)
    have hs27 : w26.cell? ⟨gb558, 0, none⟩ = some (.int .i64 0) := (blk_cell BK558.out 0).trans rfl
    have hfs27 := blk_frozen BK558.out 0
    have hns27_0 := NB548_558.out
    have hns27_1 := NB549_558.out
    have hms27_0 := NB558_548.out
    have hms27_1 := NB558_549.out
    have hs29 : w26.cell? ⟨gb558, 1, none⟩ = some (.slice none 0 0) := (blk_cell BK558.out 1).trans rfl
    have hfs29 := blk_frozen BK558.out 1
    have hns29_0 := NB548_558.out
    have hns29_1 := NB549_558.out
    have hms29_0 := NB558_548.out
    have hms29_1 := NB558_549.out
    refine skip_ (w1 := ?_) (by rfl) rfl ?_ ?_
    rotate_left
    ·go_simp
     rfl
    refine hK.out _ _ ⟨((cell_far (p := ⟨gb558, _, none⟩) NB548_558.out _).trans (((cell_far (p := ⟨gb558, _, none⟩) NB548_558.out _).trans (hHeld.1)))), ((cell_far (p := ⟨gb558, _, none⟩) NB548_558.out _).trans (((cell_far (p := ⟨gb558, _, none⟩) NB548_558.out _).trans (hHeld.2))))⟩ (fun hHeld => ?_)
    clear hK K
    refine done_ (done_of HT_.out (by kernel_rfl)) ?_
    go_upto_region 4 with (fail)
    go_cut [31] (fun v31 wc => ∃ (kq : Nat) (x31_21 : Bool), v31 = .bool x31_21 ∧ Aside0 (impl_Add.j1 kq a1 x31_21 t554 t555 = some (r1, r2, r3)) ∧ Aside0 (kq ≤ kj2) ∧ Aside0 (Kd.R k49 49 wc w.heap.size (fun _ => True) (.slice Ao28 t555.length co28) t555) ∧ Aside0 (wc.heap[gb548]? = some (.cells #[.int .i64 a0_0, (.slice A0_1 l0_1.length c0_1)] 25 (0, 0))) ∧ Aside0 (wc.heap[gb549]? = some (.cells #[.int .i64 0, (.slice none 0 0)] 25 (0, 0))) ∧ Aside0 (wc.heap[gb558]? = some (.cells #[.int .i64 t554, (.slice Ao28 t555.length co28)] 25 (0, 0))) ∧ Aside0 (Below w.heap.size w wc))
    case first =>
     have H := HC22.out
     clear HC22
     replace H := BS H
     obtain ⟨t559, A300, H⟩ := H
     have A30 := Aside0.mk A300
     clear A300
     by_cases c31 : t559 = true
     ·subst c31
      replace H := IP H
      have H' := Aside0.mk H
      clear H
      have hnb32 := NB548_549.out
      have hnc32 := NB549_548.out
      have hnb33 := NB548_558.out
      have hnc33 := NB558_548.out
      obtain ⟨hcz34_0, hcz34_1, hfz34_0, hfz34_1⟩ := bk2 BK548.out
      go_wp2_with (first | ((with_reducible refine gate_callee (f := 10) rfl ?_); refine goesL_ (some 26) rfl rfl Try.func10 (by kernel_rfl) rfl #[.agg #[.int .i64 a0_0, .slice A0_1 l0_1.length c0_1], .string a1] rfl AQ ?_; (with_reducible refine (impl_Has.calls kj2 a0_0 _ _ l0_1 a1 true _ ?side1 ?side2 A30.out).mono ?_); (case side1 => exact Kd.C_below HR0_1.out BG); (case side2 => exact HC0_1.out); rintro e w35 ⟨rfl, hb⟩; refine ⟨_, rfl, ?_⟩; have n_ : _ ∧ _ ∧ _ ∧ _ ∧ _ := ⟨AsM (Kd.R_below (by refine PRx ?_; exact (FM (FR (FR (Kd.R_types HO557.out BK558.out (by decide)))))) hb), AsM (blk_below (g := gb548) (o := .cells #[.int .i64 a0_0, .slice A0_1 l0_1.length c0_1] 25 (0, 0)) (by refine PX ?_; refine blk_far ?_ NB548_558.out _; refine PX ?_; refine blk_far ?_ NB548_558.out _; exact BD BK548) hb), AsM (blk_below (g := gb549) (o := .cells #[.int .i64 0, .slice none 0 0] 25 (0, 0)) (by refine PX ?_; refine blk_far ?_ NB549_558.out _; refine PX ?_; refine blk_far ?_ NB549_558.out _; exact BD BK549) hb), AsM (blk_below (g := gb558) (o := .cells #[.int .i64 t554, .slice Ao28 t555.length co28] 25 (0, 0)) (by refine PX ?_; refine blk_put (cs := #[.int .i64 t554, .slice none 0 0]) ?_ 1 _ rfl; refine PX ?_; refine blk_put (cs := #[.int .i64 0, .slice none 0 0]) ?_ 0 _ rfl; exact BD BK558) hb), AsM (below_step BG hb)⟩; clear HO557 BK548 BK549 BK558 HB; obtain ⟨HO557, BK548, BK549, BK558, HB⟩ := n_; (try clear hb); (try clear hb2); (try clear hk); (try clear hi)))
      go_meet
      case rel => exact ⟨_, (true), RS, H', ⟨by have := HJ2.out; first | omega | exact Nat.le_refl _⟩, ⟨RD HO557⟩, ⟨BD BK548⟩, ⟨BD BK549⟩, ⟨BD BK558⟩, ⟨by repeat (first | (with_reducible first | exact HB.out | apply below_alloc | apply pw_below_drewN | apply below_drew1 | refine below_set ?_ GE548.out | refine below_set ?_ GE549.out | refine below_set ?_ GE558.out) | exact HB.out)⟩⟩
     ·replace c31 := Bool.eq_false_iff.mpr c31
      subst c31
      replace H := IN H
      replace H := BS H
      obtain ⟨t560, A360, H⟩ := H
      have A36 := Aside0.mk A360
      clear A360
      have H' := Aside0.mk H
      clear H
      have hnb37 := NB548_549.out
      have hnc37 := NB549_548.out
      have hnb38 := NB548_558.out
      have hnc38 := NB558_548.out
      obtain ⟨hcz39_0, hcz39_1, hfz39_0, hfz39_1⟩ := bk2 BK548.out
      go_wp2_with (first | ((with_reducible refine gate_callee (f := 10) rfl ?_); refine goesL_ (some 26) rfl rfl Try.func10 (by kernel_rfl) rfl #[.agg #[.int .i64 a0_0, .slice A0_1 l0_1.length c0_1], .string a1] rfl AQ ?_; (with_reducible refine (impl_Has.calls kj2 a0_0 _ _ l0_1 a1 false _ ?side1 ?side2 A30.out).mono ?_); (case side1 => exact Kd.C_below HR0_1.out BG); (case side2 => exact HC0_1.out); rintro e w40 ⟨rfl, hb⟩; refine ⟨_, rfl, ?_⟩; have n_ : _ ∧ _ ∧ _ ∧ _ ∧ _ := ⟨AsM (Kd.R_below (by refine PRx ?_; exact (FM (FR (FR (Kd.R_types HO557.out BK558.out (by decide)))))) hb), AsM (blk_below (g := gb548) (o := .cells #[.int .i64 a0_0, .slice A0_1 l0_1.length c0_1] 25 (0, 0)) (by refine PX ?_; refine blk_far ?_ NB548_558.out _; refine PX ?_; refine blk_far ?_ NB548_558.out _; exact BD BK548) hb), AsM (blk_below (g := gb549) (o := .cells #[.int .i64 0, .slice none 0 0] 25 (0, 0)) (by refine PX ?_; refine blk_far ?_ NB549_558.out _; refine PX ?_; refine blk_far ?_ NB549_558.out _; exact BD BK549) hb), AsM (blk_below (g := gb558) (o := .cells #[.int .i64 t554, .slice Ao28 t555.length co28] 25 (0, 0)) (by refine PX ?_; refine blk_put (cs := #[.int .i64 t554, .slice none 0 0]) ?_ 1 _ rfl; refine PX ?_; refine blk_put (cs := #[.int .i64 0, .slice none 0 0]) ?_ 0 _ rfl; exact BD BK558) hb), AsM (below_step BG hb)⟩; clear HO557 BK548 BK549 BK558 HB; obtain ⟨HO557, BK548, BK549, BK558, HB⟩ := n_; (try clear hb); (try clear hb2); (try clear hk); (try clear hi); obtain ⟨hcz41_0, hcz41_1, hfz41_0, hfz41_1⟩ := bk2 BK548.out) | (go_at_call 24; (with_reducible refine (impl_Table_keysIn.calls kj2 a0_0 _ _ l0_1 t560 _ ?side1 ?side2 A36.out).mono ?_); (case side1 => exact SC HR0_1); (case side2 => exact HC0_1.out); rintro e w42 ⟨rfl, hb⟩; have n_ : _ ∧ _ ∧ _ ∧ _ ∧ _ := ⟨AsM (Kd.R_below (RD HO557) hb), AsM (blk_below (BD BK548) hb), AsM (blk_below (BD BK549) hb), AsM (blk_below (BD BK558) hb), AsM (below_step BG hb)⟩; clear HO557 BK548 BK549 BK558 HB; obtain ⟨HO557, BK548, BK549, BK558, HB⟩ := n_; (try clear hb); (try clear hb2); (try clear hk); (try clear hi)))
      go_meet
      case rel => exact ⟨_, ((t560 == 200)), RS, H', ⟨by have := HJ2.out; first | omega | exact Nat.le_refl _⟩, ⟨RD HO557⟩, ⟨BD BK548⟩, ⟨BD BK549⟩, ⟨BD BK558⟩, ⟨by repeat (first | (with_reducible first | exact HB.out | apply below_alloc | apply pw_below_drewN | apply below_drew1 | refine below_set ?_ GE548.out | refine below_set ?_ GE549.out | refine below_set ?_ GE558.out) | exact HB.out)⟩⟩
    case rest =>
     clear HC22
     try clear c1
     try clear p2
     try clear c3
     try clear c7
     try clear c9
     try clear c10
     try clear c13
     try clear c16
     try clear c17
     try clear c18
     try clear c19
     try clear c31
     try clear c32
     try clear c33
     try clear c36
     try clear c37
     try clear c38
     try clear hcz10_0
     try clear hcz10_1
     try clear hcz14_0
     try clear hcz14_1
     try clear hcz18_0
     try clear hcz18_1
     try clear hcz34_0
     try clear hcz34_1
     try clear hcz39_0
     try clear hcz39_1
     try clear hcz41_0
     try clear hcz41_1
     try clear hfz10_0
     try clear hfz10_1
     try clear hfz14_0
     try clear hfz14_1
     try clear hfz18_0
     try clear hfz18_1
     try clear hfz34_0
     try clear hfz34_1
     try clear hfz39_0
     try clear hfz39_1
     try clear hfz41_0
     try clear hfz41_1
     try clear p2
     obtain ⟨kq, x31_21, rfl, HA, HJ21, HO_559001, BK548, BK549, BK558, HB⟩ := hcut
     cases kq with
     | zero => exact absurd HA.out (by simp [impl_Add.j1])
     | succ kj21 =>
      have H := HA.out
      clear HA
      simp only [impl_Add.j1] at H
      by_cases c43 : x31_21 = true
      ·subst c43
       replace H := IP H
       simp only [Option.some.injEq, Prod.mk.injEq] at H
       obtain ⟨rfl, rfl, rfl⟩ := H
       have hnb44 := NB558_548.out
       have hnc44 := NB548_558.out
       have hnb45 := NB558_549.out
       have hnc45 := NB549_558.out
       obtain ⟨hcz46_0, hcz46_1, hfz46_0, hfz46_1⟩ := bk2 BK558.out
       have hnb47 := NB549_548.out
       have hnc47 := NB548_549.out
       obtain ⟨hcz48_0, hcz48_1, hfz48_0, hfz48_1⟩ := bk2 BK549.out
       go_wp2
       refine bodyPost_ret (results_ct rfl _ _ gb549 25 #[.int .i64 t554, .slice Ao28 t555.length co28] (0, 0) _ rfl (by refine PX ?_; refine blk_put (cs := #[.int .i64 t554, .slice none 0 0]) ?_ 1 _ rfl; refine PX ?_; refine blk_put (cs := #[.int .i64 0, .slice none 0 0]) ?_ 0 _ rfl; exact BD BK549) Try.underlying25 rfl (by kernel_rfl)) rfl ?_
       exact ⟨_, ER, by refine PRx ?_; exact Kd.R_mono (FR (FR (Kd.R_types HO_559001.out BK549.out (by decide)))) (fun _ hk => trivial), BG⟩
      ·replace c43 := Bool.eq_false_iff.mpr c43
       subst c43
       replace H := IN H
       replace H := BS H
       obtain ⟨⟨t561, t562⟩, A490, H⟩ := H
       have A49 := Aside0.mk A490
       clear A490
       replace H := BS H
       obtain ⟨⟨t563, t564⟩, A500, H⟩ := H
       have A50 := Aside0.mk A500
       clear A500
       simp only [Option.some.injEq, Prod.mk.injEq] at H
       obtain ⟨rfl, rfl, rfl⟩ := H
       try go_wp2
       have n_ : _ ∧ _ ∧ _ ∧ _ ∧ _ := ⟨AsM (Kd.R_drew HO_559001.out), AsM (blk_drew BK548.out), AsM (blk_drew BK549.out), AsM (blk_drew BK558.out), AsM (below_drew1 HB.out)⟩
       clear HO_559001 BK548 BK549 BK558 HB
       obtain ⟨HO_559001, BK548, BK549, BK558, HB⟩ := n_
       refine start_ (n := 6) (S := fun w' => w'.cell? ⟨gb558, 0, none⟩ = some (.int .i64 t554) ∧ w'.cell? ⟨gb558, 1, none⟩ = some (.slice Ao28 t555.length co28)) (ds := []) #[false, false, false, false, false, false] (by kernel_rfl) rfl rfl ⟨(blk_cell BK558.out 0).trans rfl, (blk_cell BK558.out 1).trans rfl⟩ (fun hHeld => ?_)
       generalize wc.drew = w51 at HO_559001 BK548 BK549 BK558 HB hHeld ⊢
       refine PV (i := 1) (N := some 34) #[false, true, false, false, false, false] rfl rfl ?_
       refine PK (i := 0) (N := some 33) (tf 2 4) rfl rfl hHeld ?_
       refine one_ (i := 2) (N := some 35) (tf 3 3) rfl rfl (by kernel_rfl) (by decide) (fun K hK => ?_)
       refine goes_ Try.func27 (by kernel_rfl) rfl #[.string a1] (by rfl) rfl rfl AQ ?_
       with_reducible refine (impl_entryOf.calls kj21 a1 t561 t562 _ A49.out).mono ?_
       rintro e w52 ⟨rfl, hb⟩
       refine ⟨_, rfl, ?_⟩
       have n_ : _ ∧ _ ∧ _ ∧ _ ∧ _ := ⟨AsM (Kd.R_below (RD HO_559001) hb), AsM (blk_below (BD BK548) hb), AsM (blk_below (BD BK549) hb), AsM (blk_below (BD BK558) hb), AsM (below_step BG hb)⟩
       clear HO_559001 BK548 BK549 BK558 HB
       obtain ⟨HO_559001, BK548, BK549, BK558, HB⟩ := n_
       (try clear hb)
       (try clear hb2)
       (try clear hk)
       (try clear hi)
       refine hK.out _ _ ⟨(blk_cell BK558.out 0).trans rfl, (blk_cell BK558.out 1).trans rfl⟩ (fun hHeld => ?_)
       clear hK K
       refine NM (some 35) ?_
       refine one_ (i := 3) (N := some 36) (tf 4 2) rfl rfl (by kernel_rfl) (by decide) (fun K hK => ?_)
       refine goes_ Try.func37 (by kernel_rfl) rfl #[.agg #[.int .i64 t554, .slice Ao28 t555.length co28], .agg #[.int .i64 t561, .string t562]] (by rfl) rfl rfl AQ ?_
       with_reducible refine (impl_Table_with.calls kj21 t554 _ _ t555 t561 t562 t563 t564 _ ?side1 ?side2 A50.out).mono ?_
       (case side1 => exact SR HO_559001)
       (case side2 => exact (Kd.R_reads' HO_559001.out).2.1)
       rintro e w53 ⟨v565, rfl, ho0, hb⟩
       refine ⟨_, rfl, ?_⟩
       have n_ : _ ∧ _ ∧ _ ∧ _ ∧ _ ∧ _ := ⟨AsM (Kd.R_elder' (RD HO_559001) (Kd.R_base ho0) hb), AsM (Kd.R_lower (Kd.R_new' ho0 (Kd.R_lt (RD HO_559001))) (below_size BG)), AsM (blk_below (BD BK548) hb), AsM (blk_below (BD BK549) hb), AsM (blk_below (BD BK558) hb), AsM (below_step BG hb)⟩
       clear HO_559001 BK548 BK549 BK558 HB
       obtain ⟨HO_559001, HO566, BK548, BK549, BK558, HB⟩ := n_
       (try clear hb)
       (try clear hb2)
       (try clear hk)
       (try clear hi)
       (try clear ho0)
       obtain ⟨Ao55, co55, eo55⟩ := Kd.R_slice HO566.out
       (first | subst eo55 | (injection eo55 with f1_ f2_ f3_; have f4_ := f1_.symm; have f5_ := f3_.symm; clear f1_ f2_ f3_; subst f4_; subst f5_))
       refine hK.out _ _ ⟨(blk_cell BK558.out 0).trans rfl, (blk_cell BK558.out 1).trans rfl⟩ (fun hHeld => ?_)
       clear hK K
       refine NM (some 36) ?_
       refine one_ (i := 4) (N := none) (tf 5 1) rfl rfl (by kernel_rfl) (by decide) (fun K hK => ?_)
       have hs54 : w53.cell? ⟨gb549, 0, none⟩ = some (.int .i64 0) := (blk_cell BK549.out 0).trans rfl
       have hfs54 := blk_frozen BK549.out 0
       have hns54_0 := NB548_549.out
       have hns54_2 := NB558_549.out
       have hms54_0 := NB549_548.out
       have hms54_2 := NB549_558.out
       have hs56 : w53.cell? ⟨gb549, 1, none⟩ = some (.slice none 0 0) := (blk_cell BK549.out 1).trans rfl
       have hfs56 := blk_frozen BK549.out 1
       have hns56_0 := NB548_549.out
       have hns56_2 := NB558_549.out
       have hms56_0 := NB549_548.out
       have hms56_2 := NB549_558.out
       refine skip_ (w1 := ?_) (by rfl) rfl ?_ ?_
       rotate_left
       ·go_simp
        rfl
       refine hK.out _ _ ⟨((cell_far (p := ⟨gb549, _, none⟩) NB558_549.out _).trans (((cell_far (p := ⟨gb549, _, none⟩) NB558_549.out _).trans (hHeld.1)))), ((cell_far (p := ⟨gb549, _, none⟩) NB558_549.out _).trans (((cell_far (p := ⟨gb549, _, none⟩) NB558_549.out _).trans (hHeld.2))))⟩ (fun hHeld => ?_)
       clear hK K
       refine PV (i := 5) (N := some 5) (tf 6 0) rfl rfl ?_
       refine done_ (by kernel_rfl) ?_
       try go_wp2
       refine bodyPost_ret (results_ct rfl _ _ gb549 25 #[.int .i64 t563, .slice Ao55 t564.length co55] (0, 0) _ rfl (by refine PX ?_; refine blk_put (cs := #[.int .i64 t563, .slice none 0 0]) ?_ 1 _ rfl; refine PX ?_; refine blk_put (cs := #[.int .i64 0, .slice none 0 0]) ?_ 0 _ rfl; exact BD BK549) Try.underlying25 rfl (by kernel_rfl)) rfl ?_
       exact ⟨_, ER, by refine PRx ?_; exact Kd.R_mono (FR (FR (Kd.R_types HO566.out BK549.out (by decide)))) (fun _ hk => trivial), BG⟩
end Go.Proofs.Ytbjlldjkkdiblaa.G

namespace Go.Proofs.Ytbjlldjkkdiblaa.G
open Go.RowKit Go.Proofs.YtbjlldjkkdiblaaW.PrintWords Go.Proofs.YtbjlldjkkdiblaaW.PrintLast Go.Proofs.YtbjlldjkkdiblaaW.PrintMore Go.Proofs.Ytbjlldjkkdiblaa.Sh
attribute [local go_sem] max2_int min2_int max_two min_two max_three min_three max_four min_four
set_option linter.unusedVariables false
set_option linter.unusedSimpArgs false
open Go.Proofs.Ytbjlldjkkdiblaa.Man
def slices_Delete_impl_Entry_impl_Entry.f (l0 : List S49) (a1 : Int) (a2 : Int) : Option (List S49) := if 0 ≤ a1 ∧ a1 < (l0.length : Int) ∧ a2 = a1 + 1 then some (l0.eraseIdx a1.toNat) else none
set_option maxHeartbeats 4000000 in
set_option maxRecDepth 100000 in
theorem slices_Delete_impl_Entry_impl_Entry.calls (P0_ : Nat → Prop) (u9000_ : Value) (l0 : List S49) (a1 : Int) (a2 : Int) (r : List S49) (w0 w : World) (hB : Below w0.heap.size w0 w) (ho0 : Kd.R k49 49 w w0.heap.size P0_ u9000_ l0) (h : slices_Delete_impl_Entry_impl_Entry.f l0 a1 a2 = some r) :
  Calls Try.prog 35 #[u9000_, .int .i64 a1, .int .i64 a2] w fun e w' => ∃ v0_ : Value, e = .returned v0_ ∧ Kd.R k49 49 w' w0.heap.size (fun k_ => (P0_ k_ ∨ w.heap.size ≤ k_)) v0_ r ∧ Below w0.heap.size w0 w' ∧ Kept w w' (fun k_ => P0_ k_) := by
 unfold slices_Delete_impl_Entry_impl_Entry.f at h
 by_cases c : 0 ≤ a1 ∧ a1 < (l0.length : Int) ∧ a2 = a1 + 1
 ·rw [if_pos c] at h
  obtain rfl := Option.some.inj h
  obtain ⟨c0, c1, rfl⟩ := c
  clear h
  obtain ⟨n, rfl⟩ := Int.eq_ofNat_of_zero_le c0
  have hn : n < l0.length := by omega
  obtain ⟨g, cap, rfl, gb, gl, cl, HG⟩ := Kd.R_form ho0 (by omega)
  obtain ⟨_, hlc, hC⟩ := Kd.R_reads' ho0
  have hL : l0.length ≤ 9223372036854775807 := hC.2.1
  clear hC
  have e1 : IntKind.i64.wrap ((n : Int) + 1) = (n : Int) + 1 := by exact (i64_w _).trans (by unfold wrap64; omega)
  have HO := Aside0.mk ho0
  have HBW := Aside0.mk hB
  have HGB := Aside0.mk gb
  have HGL := Aside0.mk gl
  have HN := Aside0.mk hn
  have b1 : (n : Int) + 1 ≤ (l0.length : Int) := by omega
  have b2 : (l0.length : Int) ≤ (cap : Int) := by omega
  have b3 : (n : Int) ≤ (l0.length : Int) := by omega
  have b4 : (n : Int) ≤ (cap : Int) := by omega
  have b5 : (n : Int) + 1 ≤ (cap : Int) := by omega
  have b6 : (n : Int) ≤ (n : Int) + 1 := by omega
  have b7 : (0 : Int) ≤ (n : Int) + 1 := by omega
  have e2 : ((n : Int) == (n : Int) + 1) = false := by rw [beq_eq_false_iff_ne]; omega
  by_cases hcn : cap = n + 1
  ·subst hcn
   have HS := Aside0.mk (show w0.heap.size ≤ w.drew.heap.size from hB.size)
   clear hn ho0 hB gb gl HG hL hlc c1 e1
   go_enter Try.func35, Try.ntmps35
   go_wp2
   go_region_law (refine Kd.R_delete_step k49 (w0 := w0) w0.heap.size rfl (.tmp 22) (.tmp 25) 23 49 rfl Try.underlying23 (by kernel_rfl) (by rfl) (by rfl) ((if_pos rfl).symm) (by rfl) (Kd.R_drew HO.out) HN.out (below_drew1 HBW.out) HS.out ?_; intro w1 hr hb hg)
   have HR := Aside0.mk hr
   have HB2 := Aside0.mk hb
   have HG2 := Aside0.mk hg
   clear hr hb hg
   obtain ⟨w2, hrun, hr2, hg2⟩ := R_clear_run (P := Try.prog) k49 w0.heap.size 23 0 49 (.agg #[(.int .i64 0), (.string ⟨#[]⟩)]) Try.underlying23 Try.zeroValue49 rfl (by decide) HR.out (m := l0.length - (l0.length - 1)) (by have := HN.out; omega) (by have := HN.out; omega) ((n + 1) - (l0.length - 1))
   have HR2 := Aside0.mk hr2
   have HG3 := Aside0.mk hg2
   clear hr2 hg2
   change Sem.run _ (Builtin.clear_ #[23] 0 #[.slice (some ⟨g, (l0.length - 1) * 2, none⟩) (l0.length - (l0.length - 1)) ((n + 1) - (l0.length - 1))]) w1 = _ at hrun
   go_wp2
   go_ret
   have hgw : w.grownBy w2 (some g) := World.grownBy.trans (World.grownBy.trans (show w.grownBy w.drew (some g) from ⟨rfl, rfl, rfl, Nat.le_refl _, fun _ _ _ => rfl⟩) HG2.out) HG3.out
   refine ⟨_, rfl, Kd.R_mono HR2.out (fun _ h => Or.inl h), HB2.out.grown HG3.out ?_ (fun k hk => by injection hk with hk; subst hk; exact HGB.out), Kept.of_grown hgw (Kept.refl _ _) (fun k hk => by injection hk with hk; subst hk; exact .inl (HO.out.1 _ rfl))⟩
   exact HB2.out.size
  ·have hcn' : (cap == n + 1) = false := by rw [beq_eq_false_iff_ne]; exact hcn
   have HA := Aside0.mk (show some ⟨g, (n + 1) * 2, none⟩ = (if cap = n + 1 then some (⟨g, 0, none⟩ : Addr) else (some (⟨g, 0, none⟩ : Addr)).map (·.add ((n + 1) * k49.sz))) from by rw [if_neg hcn, Option.map_some, add_plain]; rfl)
   have HS := Aside0.mk (show w0.heap.size ≤ w.drew.heap.size from hB.size)
   clear hn ho0 hB gb gl HG hL hlc c1 e1
   go_enter Try.func35, Try.ntmps35
   go_wp2
   go_region_law (refine Kd.R_delete_step k49 (w0 := w0) w0.heap.size rfl (.tmp 22) (.tmp 25) 23 49 rfl Try.underlying23 (by kernel_rfl) (by rfl) (by rfl) HA.out (by rfl) (Kd.R_drew HO.out) HN.out (below_drew1 HBW.out) HS.out ?_; intro w1 hr hb hg)
   have HR := Aside0.mk hr
   have HB2 := Aside0.mk hb
   have HG2 := Aside0.mk hg
   clear hr hb hg
   obtain ⟨w2, hrun, hr2, hg2⟩ := R_clear_run (P := Try.prog) k49 w0.heap.size 23 0 49 (.agg #[(.int .i64 0), (.string ⟨#[]⟩)]) Try.underlying23 Try.zeroValue49 rfl (by decide) HR.out (m := l0.length - (l0.length - 1)) (by have := HN.out; omega) (by have := HN.out; omega) (cap - (l0.length - 1))
   have HR2 := Aside0.mk hr2
   have HG3 := Aside0.mk hg2
   clear hr2 hg2
   change Sem.run _ (Builtin.clear_ #[23] 0 #[.slice (some ⟨g, (l0.length - 1) * 2, none⟩) (l0.length - (l0.length - 1)) (cap - (l0.length - 1))]) w1 = _ at hrun
   go_wp2
   go_ret
   have hgw : w.grownBy w2 (some g) := World.grownBy.trans (World.grownBy.trans (show w.grownBy w.drew (some g) from ⟨rfl, rfl, rfl, Nat.le_refl _, fun _ _ _ => rfl⟩) HG2.out) HG3.out
   refine ⟨_, rfl, Kd.R_mono HR2.out (fun _ h => Or.inl h), HB2.out.grown HG3.out ?_ (fun k hk => by injection hk with hk; subst hk; exact HGB.out), Kept.of_grown hgw (Kept.refl _ _) (fun k hk => by injection hk with hk; subst hk; exact .inl (HO.out.1 _ rfl))⟩
   exact HB2.out.size
 ·rw [if_neg c] at h; cases h
end Go.Proofs.Ytbjlldjkkdiblaa.G

namespace Go.Proofs.Ytbjlldjkkdiblaa.G
open Go.RowKit Go.Proofs.YtbjlldjkkdiblaaW.PrintWords Go.Proofs.YtbjlldjkkdiblaaW.PrintLast Go.Proofs.YtbjlldjkkdiblaaW.PrintMore Go.Proofs.Ytbjlldjkkdiblaa.Sh
attribute [local go_sem] max2_int min2_int max_two min_two max_three min_three max_four min_four
set_option linter.unusedVariables false
set_option linter.unusedSimpArgs false
def impl_Del.f (k : Nat) (a0_0 : Int) (l0_1 : List (S49)) (a1 : ByteArray) : Option (Int × (List (S49)) × Bool) := (impl_TableOk.f k a0_0 l0_1).bind fun t484 => (if t484 = true then ((impl_copyTable.f a0_0 l0_1).bind fun bt485 => ((impl_Has.f k a0_0 l0_1 a1).bind fun t490 => (if t490 = true then ((impl_entryOf.f k a1).bind fun bt491 => ((impl_Table_place.f k a0_0 l0_1 bt491.1 bt491.2).bind fun bt493 => ((slices_Delete_impl_Entry_impl_Entry.f bt485.2 bt493.1 (wrap64 (bt493.1 + 1))).bind fun t495 => (some (bt485.1, t495, true))))) else (some (bt485.1, bt485.2, false))))) else (some (0, ([] : List (S49)), false)))
theorem impl_Del.mono : ∀ a0 a1 a2 k, LeO (impl_Del.f k a0 a1 a2) (impl_Del.f (k + 1) a0 a1 a2) := by
 intro a0 a1 a2 k
 unfold impl_Del.f
 repeat' first | (with_reducible first | exact impl_Has.mono _ _ _ _ | exact impl_TableOk.mono _ _ _ | exact impl_Table_place.mono _ _ _ _ _ | exact impl_entryOf.mono _ _ | exact LeO.refl _ | exact LeO.none _ | refine LeO.ite ?_ ?_ | refine LeO.bind ?_ (fun _ => ?_)) | exact impl_Has.mono _ _ _ _ | exact impl_TableOk.mono _ _ _ | exact impl_Table_place.mono _ _ _ _ _ | exact impl_entryOf.mono _ _ | exact LeO.none _ | refine LeO.ite ?_ ?_ | refine LeO.bind ?_ (fun _ => ?_)
def impl_Del.T6 : Bool × List (List Nat × List Nat) := (true, [([], []), ([], []), ([1], [1]), ([0, 2, 2], [0, 2]), ([3], [3]), ([4], [4]), ([4], [4]), ([5, 3, 0, 1, 2, 3, 4, 5], [5]), ([6, 7, 0, 1, 2, 3, 4, 5, 6, 7], [6])])
def impl_Del.B6 : List Nat := [0, 0, 2, 7, 15, 31, 31, 63, 255]
theorem impl_Del.tab6 : rtab .any (opsOf Try.f11 6) = impl_Del.T6 := by kernel_rfl
theorem impl_Del.bits6 : waitsOk impl_Del.T6.2 impl_Del.B6 = true := by kernel_rfl
theorem impl_Del.z0 {P : Prop} (h : P := by rw [hg]; exact Nat.ne_of_lt (blk_lt (BD BK482))) : P := h
theorem impl_Del.z1 {P : Prop} (h : P := by rw [hg]; exact Nat.ne_of_gt (blk_lt (BD BK482))) : P := h
set_option maxHeartbeats 8000000 in
set_option maxRecDepth 100000 in
theorem impl_Del.calls (k : Nat) (a0_0 : Int) (A0_1 : Option Addr) (c0_1 : Nat) (l0_1 : List (S49)) (a1 : ByteArray) (r1 : Int) (r2 : List (S49)) (r3 : Bool) (w : World) (hr0_1 : Kd.C k49 w A0_1 l0_1.length l0_1) (hc0_1 : l0_1.length ≤ c0_1) (h : impl_Del.f k a0_0 l0_1 a1 = some (r1, r2, r3)) :
  Calls Try.prog 11 #[.agg #[.int .i64 a0_0, .slice A0_1 l0_1.length c0_1], .string a1] w fun e w' => ∃ v1_ : Value, e = .returned (.tuple #[.agg #[.int .i64 r1, v1_], .bool r3]) ∧ Kd.R k49 49 w' w.heap.size (fun _ => True) v1_ r2 ∧ Below w.heap.size w w' := by
 have hu25 := Try.underlying25
 have HR0_1 := Aside0.mk hr0_1
 have HC0_1 := Aside0.mk hc0_1
 clear hr0_1 hc0_1
 have HB := Aside0.mk (Below.refl w.heap.size w)
 have H : ((impl_TableOk.f k a0_0 l0_1).bind fun t484 => (if t484 = true then ((impl_copyTable.f a0_0 l0_1).bind fun bt485 => ((impl_Has.f k a0_0 l0_1 a1).bind fun t490 => (if t490 = true then ((impl_entryOf.f k a1).bind fun bt491 => ((impl_Table_place.f k a0_0 l0_1 bt491.1 bt491.2).bind fun bt493 => ((slices_Delete_impl_Entry_impl_Entry.f bt485.2 bt493.1 (wrap64 (bt493.1 + 1))).bind fun t495 => (some (bt485.1, t495, true))))) else (some (bt485.1, bt485.2, false))))) else (some (0, ([] : List (S49)), false)))) = some (r1, r2, r3) := h
 clear h
 replace H := BS H
 obtain ⟨t484, A30, H⟩ := H
 have A3 := Aside0.mk A30
 clear A30
 by_cases c4 : t484 = true
 ·subst c4
  replace H := IP H
  replace H := BS H
  obtain ⟨⟨t485, t486⟩, A50, H⟩ := H
  have A5 := Aside0.mk A50
  clear A50
  replace H := BS H
  obtain ⟨t490, A60, H⟩ := H
  have A6 := Aside0.mk A60
  clear A60
  by_cases c7 : t490 = true
  ·subst c7
   replace H := IP H
   replace H := BS H
   obtain ⟨⟨t491, t492⟩, A80, H⟩ := H
   have A8 := Aside0.mk A80
   clear A80
   replace H := BS H
   obtain ⟨⟨t493, t494⟩, A90, H⟩ := H
   have A9 := Aside0.mk A90
   clear A90
   replace H := BS H
   obtain ⟨t495, A100, H⟩ := H
   have A10 := Aside0.mk A100
   clear A100
   simp only [Option.some.injEq, Prod.mk.injEq] at H
   obtain ⟨rfl, rfl, rfl⟩ := H
   go_enter Try.func11, Try.ntmps11
   try go_wp2_with (first | ((with_reducible refine gate_dst (N := 2) rfl ?_); refine box_event ?hg (N := 2) ?hd (cs := #[.int .i64 a0_0, .slice A0_1 l0_1.length c0_1]) (t := 25) ?hr ?_; (case hd => rfl); (case hg => rfl); (case hr => first | (go_simp; done) | (go_simp; rfl)); intro gb482 hg w11 hbox hb; have n_ : _ ∧ _ ∧ _ ∧ _ := ⟨AsM (below_step BL hb), AsM (hbox), AsM ((GL : w.heap.size ≤ gb482)), AsM ((GL : w.heap.size ≤ gb482))⟩; clear HB; obtain ⟨HB, BK482, GW482, GE482⟩ := n_; clear hb hbox hg) | ((with_reducible refine gate_dst (N := 4) rfl ?_); refine box_event ?hg (N := 4) ?hd (cs := #[.int .i64 0, .slice none 0 0]) (t := 25) ?hr ?_; (case hd => rfl); (case hg => rfl); (case hr => first | (go_simp; done) | (go_simp; rfl)); intro gb483 hg w12 hbox hb; have n_ : _ ∧ _ ∧ _ ∧ _ ∧ _ ∧ _ ∧ _ := ⟨AsM (blk_below (BD BK482) hb), AsM (below_step BG hb), AsM (hbox), AsM ((GM : w.heap.size ≤ gb483)), AsM ((GM : w.heap.size ≤ gb483)), AsM ((impl_Del.z0 : gb482 ≠ gb483)), AsM ((impl_Del.z1 : gb483 ≠ gb482))⟩; clear BK482 HB; obtain ⟨BK482, HB, BK483, GW483, GE483, NB482_483, NB483_482⟩ := n_; clear hb hbox hg; have hnb13 := NB482_483.out; have hnc13 := NB483_482.out; obtain ⟨hcz14_0, hcz14_1, hfz14_0, hfz14_1⟩ := bk2 BK482.out) | ((with_reducible refine gate_callee (f := 7) rfl ?_); refine goesL_ (some 10) rfl rfl Try.func7 (by kernel_rfl) rfl #[.agg #[.int .i64 a0_0, .slice A0_1 l0_1.length c0_1]] rfl AQ ?_; (with_reducible refine (impl_TableOk.calls k a0_0 _ _ l0_1 true _ ?side1 ?side2 A3.out).mono ?_); (case side1 => exact SC HR0_1); (case side2 => exact HC0_1.out); rintro e w15 ⟨rfl, hb⟩; refine ⟨_, rfl, ?_⟩; have n_ : _ ∧ _ ∧ _ := ⟨AsM (blk_below (BD BK482) hb), AsM (blk_below (BD BK483) hb), AsM (below_step BG hb)⟩; clear BK482 BK483 HB; obtain ⟨BK482, BK483, HB⟩ := n_; (try clear hb); (try clear hb2); (try clear hk); (try clear hi); obtain ⟨hcz16_0, hcz16_1, hfz16_0, hfz16_1⟩ := bk2 BK482.out) | ((with_reducible refine gate_callee (f := 33) rfl ?_); refine goesL_ (some 14) rfl rfl Try.func33 (by kernel_rfl) rfl #[.agg #[.int .i64 a0_0, .slice A0_1 l0_1.length c0_1]] rfl AQ ?_; (with_reducible refine (impl_copyTable.calls a0_0 _ _ l0_1 t485 t486 _ ?side1 ?side2 A5.out).mono ?_); (case side1 => exact SC HR0_1); (case side2 => exact HC0_1.out); rintro e w17 ⟨v487, rfl, ho0, hb⟩; refine ⟨_, rfl, ?_⟩; have n_ : _ ∧ _ ∧ _ ∧ _ := ⟨AsM (Kd.R_lower ho0 (below_size BG)), AsM (blk_below (BD BK482) hb), AsM (blk_below (BD BK483) hb), AsM (below_step BG hb)⟩; clear BK482 BK483 HB; obtain ⟨HO488, BK482, BK483, HB⟩ := n_; (try clear hb); (try clear hb2); (try clear hk); (try clear hi); (try clear ho0)) | ((with_reducible refine gate_dst (N := 6) rfl ?_); refine box_event ?hg (N := 6) ?hd (cs := #[.int .i64 0, .slice none 0 0]) (t := 25) ?hr ?_; (case hd => rfl); (case hg => rfl); (case hr => first | (go_simp; done) | (go_simp; rfl)); intro gb489 hg w18 hbox hb; have n_ : _ ∧ _ ∧ _ ∧ _ ∧ _ ∧ _ ∧ _ ∧ _ ∧ _ ∧ _ ∧ _ := ⟨AsM (Kd.R_below (RD HO488) hb), AsM (blk_below (BD BK482) hb), AsM (blk_below (BD BK483) hb), AsM (below_step BG hb), AsM (hbox), AsM ((GM : w.heap.size ≤ gb489)), AsM ((GM : w.heap.size ≤ gb489)), AsM ((impl_Del.z0 : gb482 ≠ gb489)), AsM ((impl_Del.z1 : gb489 ≠ gb482)), AsM ((by rw [hg]; exact Nat.ne_of_lt (blk_lt (BD BK483)) : gb483 ≠ gb489)), AsM ((by rw [hg]; exact Nat.ne_of_gt (blk_lt (BD BK483)) : gb489 ≠ gb483))⟩; clear HO488 BK482 BK483 HB; obtain ⟨HO488, BK482, BK483, HB, BK489, GW489, GE489, NB482_489, NB489_482, NB483_489, NB489_483⟩ := n_; clear hb hbox hg; have hnb19 := NB489_482.out; have hnc19 := NB482_489.out; have hnb20 := NB489_483.out; have hnc20 := NB483_489.out; obtain ⟨hcz21_0, hcz21_1, hfz21_0, hfz21_1⟩ := bk2 BK489.out; obtain ⟨Ao22, co22, eo22⟩ := Kd.R_slice HO488.out; subst eo22; obtain ⟨hcz23_0, hcz23_1, hfz23_0, hfz23_1⟩ := bk2 BK482.out) | ((with_reducible refine gate_callee (f := 10) rfl ?_); refine goesL_ (some 17) rfl rfl Try.func10 (by kernel_rfl) rfl #[.agg #[.int .i64 a0_0, .slice A0_1 l0_1.length c0_1], .string a1] rfl AQ ?_; (with_reducible refine (impl_Has.calls k a0_0 _ _ l0_1 a1 true _ ?side1 ?side2 A6.out).mono ?_); (case side1 => exact Kd.C_below HR0_1.out BG); (case side2 => exact HC0_1.out); rintro e w24 ⟨rfl, hb⟩; refine ⟨_, rfl, ?_⟩; have n_ : _ ∧ _ ∧ _ ∧ _ ∧ _ := ⟨AsM (Kd.R_below (by refine PRx ?_; exact (FM (FR (FR (Kd.R_types HO488.out BK489.out (by decide)))))) hb), AsM (blk_below (g := gb482) (o := .cells #[.int .i64 a0_0, .slice A0_1 l0_1.length c0_1] 25 (0, 0)) (by refine PX ?_; refine blk_far ?_ NB482_489.out _; refine PX ?_; refine blk_far ?_ NB482_489.out _; exact BD BK482) hb), AsM (blk_below (g := gb483) (o := .cells #[.int .i64 0, .slice none 0 0] 25 (0, 0)) (by refine PX ?_; refine blk_far ?_ NB483_489.out _; refine PX ?_; refine blk_far ?_ NB483_489.out _; exact BD BK483) hb), AsM (blk_below (g := gb489) (o := .cells #[.int .i64 t485, .slice Ao22 t486.length co22] 25 (0, 0)) (by refine PX ?_; refine blk_put (cs := #[.int .i64 t485, .slice none 0 0]) ?_ 1 _ rfl; refine PX ?_; refine blk_put (cs := #[.int .i64 0, .slice none 0 0]) ?_ 0 _ rfl; exact BD BK489) hb), AsM (below_step BG hb)⟩; clear HO488 BK482 BK483 BK489 HB; obtain ⟨HO488, BK482, BK483, BK489, HB⟩ := n_; (try clear hb); (try clear hb2); (try clear hk); (try clear hi)))
   have n_ : _ ∧ _ ∧ _ ∧ _ ∧ _ := ⟨AsM (Kd.R_drew HO488.out), AsM (blk_drew BK482.out), AsM (blk_drew BK483.out), AsM (blk_drew BK489.out), AsM (below_drew1 HB.out)⟩
   clear HO488 BK482 BK483 BK489 HB
   obtain ⟨HO488, BK482, BK483, BK489, HB⟩ := n_
   refine start_ (n := 9) (S := fun w' => w'.cell? ⟨gb482, 0, none⟩ = some (.int .i64 a0_0) ∧ w'.cell? ⟨gb482, 1, none⟩ = some (.slice A0_1 l0_1.length c0_1)) (ds := []) #[false, false, false, false, false, false, false, false, false] (by kernel_rfl) rfl rfl ⟨(blk_cell BK482.out 0).trans rfl, (blk_cell BK482.out 1).trans rfl⟩ (fun hHeld => ?_); refine with_tabW impl_Del.tab6 impl_Del.bits6 (fun HT_ HW_ => ?_)
   generalize w24.drew = w25 at HO488 BK482 BK483 BK489 HB hHeld ⊢
   refine PU (i := 1) (N := some 22) #[false, true, false, false, false, false, false, false, false] rfl rfl HT_ ?_
   refine PT (i := 0) (N := some 21) (tf 2 7) rfl rfl HT_ HW_ hHeld ?_
   refine one_ (i := 2) (N := some 23) (tf 3 6) rfl rfl (one_of HT_.out (by kernel_rfl)) (by decide) (fun K hK => ?_)
   refine goes_ Try.func27 (by kernel_rfl) rfl #[.string a1] (by rfl) rfl rfl AQ ?_
   with_reducible refine (impl_entryOf.calls k a1 t491 t492 _ A8.out).mono ?_
   rintro e w26 ⟨rfl, hb⟩
   refine ⟨_, rfl, ?_⟩
   have n_ : _ ∧ _ ∧ _ ∧ _ ∧ _ := ⟨AsM (Kd.R_below (RD HO488) hb), AsM (blk_below (BD BK482) hb), AsM (blk_below (BD BK483) hb), AsM (blk_below (BD BK489) hb), AsM (below_step BG hb)⟩
   clear HO488 BK482 BK483 BK489 HB
   obtain ⟨HO488, BK482, BK483, BK489, HB⟩ := n_
   (try clear hb)
   (try clear hb2)
   (try clear hk)
   (try clear hi)
   refine hK.out _ _ ⟨(blk_cell BK482.out 0).trans rfl, (blk_cell BK482.out 1).trans rfl⟩ (fun hHeld => ?_)
   clear hK K
   refine NM (some 23) ?_
   refine one_ (i := 3) (N := some 24) (tf 4 5) rfl rfl (one_of HT_.out (by kernel_rfl)) (by decide) (fun K hK => ?_)
   refine goes_ Try.func34 (by kernel_rfl) rfl #[.agg #[.int .i64 a0_0, .slice A0_1 l0_1.length c0_1], .agg #[.int .i64 t491, .string t492]] (by rfl) rfl rfl AQ ?_
   with_reducible refine (impl_Table_place.calls k a0_0 _ _ l0_1 t491 t492 t493 t494 _ ?side1 ?side2 A9.out).mono ?_
   (case side1 => exact SC HR0_1)
   (case side2 => exact HC0_1.out)
   rintro e w27 ⟨rfl, hb⟩
   refine ⟨_, rfl, ?_⟩
   have n_ : _ ∧ _ ∧ _ ∧ _ ∧ _ := ⟨AsM (Kd.R_below (RD HO488) hb), AsM (blk_below (BD BK482) hb), AsM (blk_below (BD BK483) hb), AsM (blk_below (BD BK489) hb), AsM (below_step BG hb)⟩
   clear HO488 BK482 BK483 BK489 HB
   obtain ⟨HO488, BK482, BK483, BK489, HB⟩ := n_
   (try clear hb)
   (try clear hb2)
   (try clear hk)
   (try clear hi)
   refine hK.out _ _ ⟨(blk_cell BK482.out 0).trans rfl, (blk_cell BK482.out 1).trans rfl⟩ (fun hHeld => ?_)
   clear hK K
   refine NM (some 24) ?_
   refine PU (i := 4) (N := some 20) (tf 5 4) rfl rfl HT_ ?_
   refine PU (i := 5) (N := some 25) (tf 6 3) rfl rfl HT_ ?_
   refine PU (i := 6) (N := some 26) (tf 7 2) rfl rfl HT_ ?_
   refine PU (i := 7) (N := some 7) (tf 8 1) rfl rfl HT_ ?_
   refine PU (i := 8) (N := some 8) (tf 9 0) rfl rfl HT_ ?_
   refine done_ (done_of HT_.out (by kernel_rfl)) ?_
   obtain ⟨hcz28_0, hcz28_1, hfz28_0, hfz28_1⟩ := bk2 BK489.out
   try go_wp2_with (first | ((with_reducible refine gate_callee (f := 35) rfl ?_); refine goesL_ (some 32) rfl rfl Try.func35 (by kernel_rfl) rfl #[.slice Ao22 t486.length co22, .int .i64 t493, .int .i64 (wrap64 (t493 + 1))] rfl AQ ?_; (with_reducible refine (slices_Delete_impl_Entry_impl_Entry.calls (fun k_ => some k_ = (.slice Ao22 t486.length co22 : Value).ownBlock) (.slice Ao22 t486.length co22) t486 t493 (wrap64 (t493 + 1)) t495 w _ ?side1 ?side2 A10.out).mono ?_); (case side1 => repeat (first | (with_reducible first | exact HB.out | apply below_alloc | apply pw_below_drewN | apply below_drew1 | refine below_set ?_ GE482.out | refine below_set ?_ GE483.out | refine below_set ?_ GE489.out) | exact HB.out)); (case side2 => exact Kd.R_tight rfl HO488.out); rintro e w29 ⟨v496, rfl, ho0, hb, hkp⟩; refine ⟨_, rfl, ?_⟩; have n_ : _ ∧ _ ∧ _ ∧ _ ∧ _ := ⟨AsM (blk_kept (BD BK482) hkp (fun hs_ => (fun e_ => (Kd.R_ne HO488.out BK482.out (by decide)) e_) hs_)), AsM (blk_kept (BD BK483) hkp (fun hs_ => (fun e_ => (Kd.R_ne HO488.out BK483.out (by decide)) e_) hs_)), AsM (blk_kept (BD BK489) hkp (fun hs_ => (fun e_ => (Kd.R_ne HO488.out BK489.out (by decide)) e_) hs_)), AsM (Kd.R_mono (ok' := fun k_ => True) ho0 (fun k_ hk_ => trivial)), AsM (hb)⟩; clear BK482 BK483 BK489 HB HO488; obtain ⟨BK482, BK483, BK489, HO497, HB⟩ := n_; (try clear hb); (try clear hkp); (try clear ho0); obtain ⟨Ao30, co30, eo30⟩ := Kd.R_slice HO497.out; subst eo30; obtain ⟨hcz31_0, hcz31_1, hfz31_0, hfz31_1⟩ := bk2 BK489.out; obtain ⟨hcz32_0, hcz32_1, hfz32_0, hfz32_1⟩ := bk2 BK483.out))
   refine bodyPost_ret (results_ct rfl _ _ gb483 25 #[.int .i64 t485, .slice Ao30 t495.length co30] (0, 0) _ rfl (by refine PX ?_; refine blk_put (cs := #[.int .i64 t485, .slice none 0 0]) ?_ 1 _ rfl; refine PX ?_; refine blk_put (cs := #[.int .i64 0, .slice none 0 0]) ?_ 0 _ rfl; refine PX ?_; refine blk_far ?_ NB483_489.out _; exact BD BK483) Try.underlying25 rfl (by kernel_rfl)) rfl ?_
   exact ⟨_, ER, by refine PRx ?_; exact Kd.R_mono (FR (FR (Kd.R_far (p := ⟨gb489, 1, none⟩) (Kd.R_types (Kd.R_types HO497.out BK489.out (by decide)) BK483.out (by decide)) (fun _ hk => hk.1.2) (.slice Ao30 t495.length co30)))) (fun _ hk => trivial), BG⟩
  ·replace c7 := Bool.eq_false_iff.mpr c7
   subst c7
   replace H := IN H
   simp only [Option.some.injEq, Prod.mk.injEq] at H
   obtain ⟨rfl, rfl, rfl⟩ := H
   go_enter Try.func11, Try.ntmps11
   go_wp2_with (first | ((with_reducible refine gate_dst (N := 2) rfl ?_); refine box_event ?hg (N := 2) ?hd (cs := #[.int .i64 a0_0, .slice A0_1 l0_1.length c0_1]) (t := 25) ?hr ?_; (case hd => rfl); (case hg => rfl); (case hr => first | (go_simp; done) | (go_simp; rfl)); intro gb482 hg w33 hbox hb; have n_ : _ ∧ _ ∧ _ ∧ _ := ⟨AsM (below_step BL hb), AsM (hbox), AsM ((GL : w.heap.size ≤ gb482)), AsM ((GL : w.heap.size ≤ gb482))⟩; clear HB; obtain ⟨HB, BK482, GW482, GE482⟩ := n_; clear hb hbox hg) | ((with_reducible refine gate_dst (N := 4) rfl ?_); refine box_event ?hg (N := 4) ?hd (cs := #[.int .i64 0, .slice none 0 0]) (t := 25) ?hr ?_; (case hd => rfl); (case hg => rfl); (case hr => first | (go_simp; done) | (go_simp; rfl)); intro gb483 hg w34 hbox hb; have n_ : _ ∧ _ ∧ _ ∧ _ ∧ _ ∧ _ ∧ _ := ⟨AsM (blk_below (BD BK482) hb), AsM (below_step BG hb), AsM (hbox), AsM ((GM : w.heap.size ≤ gb483)), AsM ((GM : w.heap.size ≤ gb483)), AsM ((impl_Del.z0 : gb482 ≠ gb483)), AsM ((impl_Del.z1 : gb483 ≠ gb482))⟩; clear BK482 HB; obtain ⟨BK482, HB, BK483, GW483, GE483, NB482_483, NB483_482⟩ := n_; clear hb hbox hg; have hnb35 := NB482_483.out; have hnc35 := NB483_482.out; obtain ⟨hcz36_0, hcz36_1, hfz36_0, hfz36_1⟩ := bk2 BK482.out) | ((with_reducible refine gate_callee (f := 7) rfl ?_); refine goesL_ (some 10) rfl rfl Try.func7 (by kernel_rfl) rfl #[.agg #[.int .i64 a0_0, .slice A0_1 l0_1.length c0_1]] rfl AQ ?_; (with_reducible refine (impl_TableOk.calls k a0_0 _ _ l0_1 true _ ?side1 ?side2 A3.out).mono ?_); (case side1 => exact SC HR0_1); (case side2 => exact HC0_1.out); rintro e w37 ⟨rfl, hb⟩; refine ⟨_, rfl, ?_⟩; have n_ : _ ∧ _ ∧ _ := ⟨AsM (blk_below (BD BK482) hb), AsM (blk_below (BD BK483) hb), AsM (below_step BG hb)⟩; clear BK482 BK483 HB; obtain ⟨BK482, BK483, HB⟩ := n_; (try clear hb); (try clear hb2); (try clear hk); (try clear hi); obtain ⟨hcz38_0, hcz38_1, hfz38_0, hfz38_1⟩ := bk2 BK482.out) | ((with_reducible refine gate_callee (f := 33) rfl ?_); refine goesL_ (some 14) rfl rfl Try.func33 (by kernel_rfl) rfl #[.agg #[.int .i64 a0_0, .slice A0_1 l0_1.length c0_1]] rfl AQ ?_; (with_reducible refine (impl_copyTable.calls a0_0 _ _ l0_1 t485 t486 _ ?side1 ?side2 A5.out).mono ?_); (case side1 => exact SC HR0_1); (case side2 => exact HC0_1.out); rintro e w39 ⟨v487, rfl, ho0, hb⟩; refine ⟨_, rfl, ?_⟩; have n_ : _ ∧ _ ∧ _ ∧ _ := ⟨AsM (Kd.R_lower ho0 (below_size BG)), AsM (blk_below (BD BK482) hb), AsM (blk_below (BD BK483) hb), AsM (below_step BG hb)⟩; clear BK482 BK483 HB; obtain ⟨HO488, BK482, BK483, HB⟩ := n_; (try clear hb); (try clear hb2); (try clear hk); (try clear hi); (try clear ho0)) | ((with_reducible refine gate_dst (N := 6) rfl ?_); refine box_event ?hg (N := 6) ?hd (cs := #[.int .i64 0, .slice none 0 0]) (t := 25) ?hr ?_; (case hd => rfl); (case hg => rfl); (case hr => first | (go_simp; done) | (go_simp; rfl)); intro gb489 hg w40 hbox hb; have n_ : _ ∧ _ ∧ _ ∧ _ ∧ _ ∧ _ ∧ _ ∧ _ ∧ _ ∧ _ ∧ _ := ⟨AsM (Kd.R_below (RD HO488) hb), AsM (blk_below (BD BK482) hb), AsM (blk_below (BD BK483) hb), AsM (below_step BG hb), AsM (hbox), AsM ((GM : w.heap.size ≤ gb489)), AsM ((GM : w.heap.size ≤ gb489)), AsM ((impl_Del.z0 : gb482 ≠ gb489)), AsM ((impl_Del.z1 : gb489 ≠ gb482)), AsM ((by rw [hg]; exact Nat.ne_of_lt (blk_lt (BD BK483)) : gb483 ≠ gb489)), AsM ((by rw [hg]; exact Nat.ne_of_gt (blk_lt (BD BK483)) : gb489 ≠ gb483))⟩; clear HO488 BK482 BK483 HB; obtain ⟨HO488, BK482, BK483, HB, BK489, GW489, GE489, NB482_489, NB489_482, NB483_489, NB489_483⟩ := n_; clear hb hbox hg; have hnb41 := NB489_482.out; have hnc41 := NB482_489.out; have hnb42 := NB489_483.out; have hnc42 := NB483_489.out; obtain ⟨hcz43_0, hcz43_1, hfz43_0, hfz43_1⟩ := bk2 BK489.out; obtain ⟨Ao44, co44, eo44⟩ := Kd.R_slice HO488.out; subst eo44; obtain ⟨hcz45_0, hcz45_1, hfz45_0, hfz45_1⟩ := bk2 BK482.out) | ((with_reducible refine gate_callee (f := 10) rfl ?_); refine goesL_ (some 17) rfl rfl Try.func10 (by kernel_rfl) rfl #[.agg #[.int .i64 a0_0, .slice A0_1 l0_1.length c0_1], .string a1] rfl AQ ?_; (with_reducible refine (impl_Has.calls k a0_0 _ _ l0_1 a1 false _ ?side1 ?side2 A6.out).mono ?_); (case side1 => exact Kd.C_below HR0_1.out BG); (case side2 => exact HC0_1.out); rintro e w46 ⟨rfl, hb⟩; refine ⟨_, rfl, ?_⟩; have n_ : _ ∧ _ ∧ _ ∧ _ ∧ _ := ⟨AsM (Kd.R_below (by refine PRx ?_; exact (FM (FR (FR (Kd.R_types HO488.out BK489.out (by decide)))))) hb), AsM (blk_below (g := gb482) (o := .cells #[.int .i64 a0_0, .slice A0_1 l0_1.length c0_1] 25 (0, 0)) (by refine PX ?_; refine blk_far ?_ NB482_489.out _; refine PX ?_; refine blk_far ?_ NB482_489.out _; exact BD BK482) hb), AsM (blk_below (g := gb483) (o := .cells #[.int .i64 0, .slice none 0 0] 25 (0, 0)) (by refine PX ?_; refine blk_far ?_ NB483_489.out _; refine PX ?_; refine blk_far ?_ NB483_489.out _; exact BD BK483) hb), AsM (blk_below (g := gb489) (o := .cells #[.int .i64 t485, .slice Ao44 t486.length co44] 25 (0, 0)) (by refine PX ?_; refine blk_put (cs := #[.int .i64 t485, .slice none 0 0]) ?_ 1 _ rfl; refine PX ?_; refine blk_put (cs := #[.int .i64 0, .slice none 0 0]) ?_ 0 _ rfl; exact BD BK489) hb), AsM (below_step BG hb)⟩; clear HO488 BK482 BK483 BK489 HB; obtain ⟨HO488, BK482, BK483, BK489, HB⟩ := n_; (try clear hb); (try clear hb2); (try clear hk); (try clear hi); obtain ⟨hcz47_0, hcz47_1, hfz47_0, hfz47_1⟩ := bk2 BK489.out; obtain ⟨hcz48_0, hcz48_1, hfz48_0, hfz48_1⟩ := bk2 BK483.out))
   refine bodyPost_ret (results_ct rfl _ _ gb483 25 #[.int .i64 t485, .slice Ao44 t486.length co44] (0, 0) _ rfl (by refine PX ?_; refine blk_put (cs := #[.int .i64 t485, .slice none 0 0]) ?_ 1 _ rfl; refine PX ?_; refine blk_put (cs := #[.int .i64 0, .slice none 0 0]) ?_ 0 _ rfl; exact BD BK483) Try.underlying25 rfl (by kernel_rfl)) rfl ?_
   exact ⟨_, ER, by refine PRx ?_; exact Kd.R_mono (FR (FR (Kd.R_types HO488.out BK483.out (by decide)))) (fun _ hk => trivial), BG⟩
 ·replace c4 := Bool.eq_false_iff.mpr c4
  subst c4
  replace H := IN H
  simp only [Option.some.injEq, Prod.mk.injEq] at H
  obtain ⟨rfl, rfl, rfl⟩ := H
  go_enter Try.func11, Try.ntmps11
  go_wp2_with (first | ((with_reducible refine gate_dst (N := 2) rfl ?_); refine box_event ?hg (N := 2) ?hd (cs := #[.int .i64 a0_0, .slice A0_1 l0_1.length c0_1]) (t := 25) ?hr ?_; (case hd => rfl); (case hg => rfl); (case hr => first | (go_simp; done) | (go_simp; rfl)); intro gb482 hg w49 hbox hb; have n_ : _ ∧ _ ∧ _ ∧ _ := ⟨AsM (below_step BL hb), AsM (hbox), AsM ((GL : w.heap.size ≤ gb482)), AsM ((GL : w.heap.size ≤ gb482))⟩; clear HB; obtain ⟨HB, BK482, GW482, GE482⟩ := n_; clear hb hbox hg) | ((with_reducible refine gate_dst (N := 4) rfl ?_); refine box_event ?hg (N := 4) ?hd (cs := #[.int .i64 0, .slice none 0 0]) (t := 25) ?hr ?_; (case hd => rfl); (case hg => rfl); (case hr => first | (go_simp; done) | (go_simp; rfl)); intro gb483 hg w50 hbox hb; have n_ : _ ∧ _ ∧ _ ∧ _ ∧ _ ∧ _ ∧ _ := ⟨AsM (blk_below (BD BK482) hb), AsM (below_step BG hb), AsM (hbox), AsM ((GM : w.heap.size ≤ gb483)), AsM ((GM : w.heap.size ≤ gb483)), AsM ((impl_Del.z0 : gb482 ≠ gb483)), AsM ((impl_Del.z1 : gb483 ≠ gb482))⟩; clear BK482 HB; obtain ⟨BK482, HB, BK483, GW483, GE483, NB482_483, NB483_482⟩ := n_; clear hb hbox hg; have hnb51 := NB482_483.out; have hnc51 := NB483_482.out; obtain ⟨hcz52_0, hcz52_1, hfz52_0, hfz52_1⟩ := bk2 BK482.out) | ((with_reducible refine gate_callee (f := 7) rfl ?_); refine goesL_ (some 10) rfl rfl Try.func7 (by kernel_rfl) rfl #[.agg #[.int .i64 a0_0, .slice A0_1 l0_1.length c0_1]] rfl AQ ?_; (with_reducible refine (impl_TableOk.calls k a0_0 _ _ l0_1 false _ ?side1 ?side2 A3.out).mono ?_); (case side1 => exact SC HR0_1); (case side2 => exact HC0_1.out); rintro e w53 ⟨rfl, hb⟩; refine ⟨_, rfl, ?_⟩; have n_ : _ ∧ _ ∧ _ := ⟨AsM (blk_below (BD BK482) hb), AsM (blk_below (BD BK483) hb), AsM (below_step BG hb)⟩; clear BK482 BK483 HB; obtain ⟨BK482, BK483, HB⟩ := n_; (try clear hb); (try clear hb2); (try clear hk); (try clear hi); obtain ⟨hcz54_0, hcz54_1, hfz54_0, hfz54_1⟩ := bk2 BK483.out))
  refine bodyPost_ret (results_ct rfl _ _ gb483 25 #[.int .i64 0, .slice none 0 0] (0, 0) _ rfl (by refine PX ?_; refine blk_put (cs := #[.int .i64 0, .slice none 0 0]) ?_ 1 _ rfl; refine PX ?_; refine blk_put (cs := #[.int .i64 0, .slice none 0 0]) ?_ 0 _ rfl; exact BD BK483) Try.underlying25 rfl (by kernel_rfl)) rfl ?_
  exact ⟨_, ER, by first | exact Kd.R_nil _ _ _ _ _ | exact Kd.N_nil _ _ _ _ _ | exact Kd.V_nil _ _ _ _ _ | exact Kd.Q_nil _ _ _ _ _ | exact Kd.S_nil _ _ _ _ _, BG⟩
def impl_Grow.f (k : Nat) (a0_0 : Int) (l0_1 : List (S49)) : Option (Int × (List (S49)) × Bool) := (impl_TableOk.f k a0_0 l0_1).bind fun t569 => (if t569 = true then ((impl_copyTable.f a0_0 l0_1).bind fun bt570 => (if a0_0 = 64 then (some (bt570.1, bt570.2, false)) else (some (wrap64 (2 * a0_0), bt570.2, true)))) else (some (0, ([] : List (S49)), false)))
theorem impl_Grow.mono : ∀ a0 a1 k, LeO (impl_Grow.f k a0 a1) (impl_Grow.f (k + 1) a0 a1) := by
 intro a0 a1 k
 unfold impl_Grow.f
 repeat' first | (with_reducible first | exact impl_TableOk.mono _ _ _ | exact LeO.refl _ | exact LeO.none _ | refine LeO.ite ?_ ?_ | refine LeO.bind ?_ (fun _ => ?_)) | exact impl_TableOk.mono _ _ _ | exact LeO.none _ | refine LeO.ite ?_ ?_ | refine LeO.bind ?_ (fun _ => ?_)
theorem impl_Grow.z0 {P : Prop} (h : P := by rw [hg]; exact Nat.ne_of_lt (blk_lt (BD BK567))) : P := h
theorem impl_Grow.z1 {P : Prop} (h : P := by rw [hg]; exact Nat.ne_of_gt (blk_lt (BD BK567))) : P := h
set_option maxHeartbeats 8000000 in
set_option maxRecDepth 100000 in
theorem impl_Grow.calls (k : Nat) (a0_0 : Int) (A0_1 : Option Addr) (c0_1 : Nat) (l0_1 : List (S49)) (r1 : Int) (r2 : List (S49)) (r3 : Bool) (w : World) (hr0_1 : Kd.C k49 w A0_1 l0_1.length l0_1) (hc0_1 : l0_1.length ≤ c0_1) (h : impl_Grow.f k a0_0 l0_1 = some (r1, r2, r3)) :
  Calls Try.prog 14 #[.agg #[.int .i64 a0_0, .slice A0_1 l0_1.length c0_1]] w fun e w' => ∃ v1_ : Value, e = .returned (.tuple #[.agg #[.int .i64 r1, v1_], .bool r3]) ∧ Kd.R k49 49 w' w.heap.size (fun _ => True) v1_ r2 ∧ Below w.heap.size w w' := by
 have hu25 := Try.underlying25
 have HR0_1 := Aside0.mk hr0_1
 have HC0_1 := Aside0.mk hc0_1
 clear hr0_1 hc0_1
 have HB := Aside0.mk (Below.refl w.heap.size w)
 have H : ((impl_TableOk.f k a0_0 l0_1).bind fun t569 => (if t569 = true then ((impl_copyTable.f a0_0 l0_1).bind fun bt570 => (if a0_0 = 64 then (some (bt570.1, bt570.2, false)) else (some (wrap64 (2 * a0_0), bt570.2, true)))) else (some (0, ([] : List (S49)), false)))) = some (r1, r2, r3) := h
 clear h
 replace H := BS H
 obtain ⟨t569, A20, H⟩ := H
 have A2 := Aside0.mk A20
 clear A20
 by_cases c3 : t569 = true
 ·subst c3
  replace H := IP H
  replace H := BS H
  obtain ⟨⟨t570, t571⟩, A40, H⟩ := H
  have A4 := Aside0.mk A40
  clear A40
  by_cases c5 : a0_0 = 64
  ·rw [if_pos c5] at H
   have c5b0 : (a0_0 == 64) = true := beq_iff_eq.mpr c5
   have c5b1 : (a0_0 != 64) = false := bne_eq_false_iff_eq.mpr c5
   clear c5
   simp only [Option.some.injEq, Prod.mk.injEq] at H
   obtain ⟨rfl, rfl, rfl⟩ := H
   go_enter Try.func14, Try.ntmps14
   go_wp2_with (first | ((with_reducible refine gate_dst (N := 1) rfl ?_); refine box_event ?hg (N := 1) ?hd (cs := #[.int .i64 a0_0, .slice A0_1 l0_1.length c0_1]) (t := 25) ?hr ?_; (case hd => rfl); (case hg => rfl); (case hr => first | (go_simp; done) | (go_simp; rfl)); intro gb567 hg w6 hbox hb; have n_ : _ ∧ _ ∧ _ ∧ _ := ⟨AsM (below_step BL hb), AsM (hbox), AsM ((GL : w.heap.size ≤ gb567)), AsM ((GL : w.heap.size ≤ gb567))⟩; clear HB; obtain ⟨HB, BK567, GW567, GE567⟩ := n_; clear hb hbox hg) | ((with_reducible refine gate_dst (N := 2) rfl ?_); refine box_event ?hg (N := 2) ?hd (cs := #[.int .i64 0, .slice none 0 0]) (t := 25) ?hr ?_; (case hd => rfl); (case hg => rfl); (case hr => first | (go_simp; done) | (go_simp; rfl)); intro gb568 hg w7 hbox hb; have n_ : _ ∧ _ ∧ _ ∧ _ ∧ _ ∧ _ ∧ _ := ⟨AsM (blk_below (BD BK567) hb), AsM (below_step BG hb), AsM (hbox), AsM ((GM : w.heap.size ≤ gb568)), AsM ((GM : w.heap.size ≤ gb568)), AsM ((impl_Grow.z0 : gb567 ≠ gb568)), AsM ((impl_Grow.z1 : gb568 ≠ gb567))⟩; clear BK567 HB; obtain ⟨BK567, HB, BK568, GW568, GE568, NB567_568, NB568_567⟩ := n_; clear hb hbox hg; have hnb8 := NB567_568.out; have hnc8 := NB568_567.out; obtain ⟨hcz9_0, hcz9_1, hfz9_0, hfz9_1⟩ := bk2 BK567.out) | ((with_reducible refine gate_callee (f := 7) rfl ?_); refine goesL_ (some 6) rfl rfl Try.func7 (by kernel_rfl) rfl #[.agg #[.int .i64 a0_0, .slice A0_1 l0_1.length c0_1]] rfl AQ ?_; (with_reducible refine (impl_TableOk.calls k a0_0 _ _ l0_1 true _ ?side1 ?side2 A2.out).mono ?_); (case side1 => exact SC HR0_1); (case side2 => exact HC0_1.out); rintro e w10 ⟨rfl, hb⟩; refine ⟨_, rfl, ?_⟩; have n_ : _ ∧ _ ∧ _ := ⟨AsM (blk_below (BD BK567) hb), AsM (blk_below (BD BK568) hb), AsM (below_step BG hb)⟩; clear BK567 BK568 HB; obtain ⟨BK567, BK568, HB⟩ := n_; (try clear hb); (try clear hb2); (try clear hk); (try clear hi); obtain ⟨hcz11_0, hcz11_1, hfz11_0, hfz11_1⟩ := bk2 BK567.out) | ((with_reducible refine gate_callee (f := 33) rfl ?_); refine goesL_ (some 10) rfl rfl Try.func33 (by kernel_rfl) rfl #[.agg #[.int .i64 a0_0, .slice A0_1 l0_1.length c0_1]] rfl AQ ?_; (with_reducible refine (impl_copyTable.calls a0_0 _ _ l0_1 t570 t571 _ ?side1 ?side2 A4.out).mono ?_); (case side1 => exact SC HR0_1); (case side2 => exact HC0_1.out); rintro e w12 ⟨v572, rfl, ho0, hb⟩; refine ⟨_, rfl, ?_⟩; have n_ : _ ∧ _ ∧ _ ∧ _ := ⟨AsM (Kd.R_lower ho0 (below_size BG)), AsM (blk_below (BD BK567) hb), AsM (blk_below (BD BK568) hb), AsM (below_step BG hb)⟩; clear BK567 BK568 HB; obtain ⟨HO573, BK567, BK568, HB⟩ := n_; (try clear hb); (try clear hb2); (try clear hk); (try clear hi); (try clear ho0)) | ((with_reducible refine gate_dst (N := 4) rfl ?_); refine box_event ?hg (N := 4) ?hd (cs := #[.int .i64 0, .slice none 0 0]) (t := 25) ?hr ?_; (case hd => rfl); (case hg => rfl); (case hr => first | (go_simp; done) | (go_simp; rfl)); intro gb574 hg w13 hbox hb; have n_ : _ ∧ _ ∧ _ ∧ _ ∧ _ ∧ _ ∧ _ ∧ _ ∧ _ ∧ _ ∧ _ := ⟨AsM (Kd.R_below (RD HO573) hb), AsM (blk_below (BD BK567) hb), AsM (blk_below (BD BK568) hb), AsM (below_step BG hb), AsM (hbox), AsM ((GM : w.heap.size ≤ gb574)), AsM ((GM : w.heap.size ≤ gb574)), AsM ((impl_Grow.z0 : gb567 ≠ gb574)), AsM ((impl_Grow.z1 : gb574 ≠ gb567)), AsM ((by rw [hg]; exact Nat.ne_of_lt (blk_lt (BD BK568)) : gb568 ≠ gb574)), AsM ((by rw [hg]; exact Nat.ne_of_gt (blk_lt (BD BK568)) : gb574 ≠ gb568))⟩; clear HO573 BK567 BK568 HB; obtain ⟨HO573, BK567, BK568, HB, BK574, GW574, GE574, NB567_574, NB574_567, NB568_574, NB574_568⟩ := n_; clear hb hbox hg; have hnb14 := NB574_567.out; have hnc14 := NB567_574.out; have hnb15 := NB574_568.out; have hnc15 := NB568_574.out; obtain ⟨hcz16_0, hcz16_1, hfz16_0, hfz16_1⟩ := bk2 BK574.out; obtain ⟨Ao17, co17, eo17⟩ := Kd.R_slice HO573.out; subst eo17; obtain ⟨hcz18_0, hcz18_1, hfz18_0, hfz18_1⟩ := bk2 BK567.out; obtain ⟨hcz19_0, hcz19_1, hfz19_0, hfz19_1⟩ := bk2 BK568.out))
   refine bodyPost_ret (results_ct rfl _ _ gb568 25 #[.int .i64 t570, .slice Ao17 t571.length co17] (0, 0) _ rfl (by refine PX ?_; refine blk_put (cs := #[.int .i64 t570, .slice none 0 0]) ?_ 1 _ rfl; refine PX ?_; refine blk_put (cs := #[.int .i64 0, .slice none 0 0]) ?_ 0 _ rfl; refine PX ?_; refine blk_far ?_ NB568_574.out _; refine PX ?_; refine blk_far ?_ NB568_574.out _; exact BD BK568) Try.underlying25 rfl (by kernel_rfl)) rfl ?_
   exact ⟨_, ER, by refine PRx ?_; exact Kd.R_mono (FR (FR (Kd.R_far (p := ⟨gb574, 1, none⟩) (Kd.R_far (p := ⟨gb574, 0, none⟩) (Kd.R_types (Kd.R_types HO573.out BK574.out (by decide)) BK568.out (by decide)) (fun _ hk => hk.1.2) (.int .i64 t570)) (fun _ hk => hk.1.2) (.slice Ao17 t571.length co17)))) (fun _ hk => trivial), BG⟩
  ·rw [if_neg c5] at H
   have c5b0 : (a0_0 == 64) = false := beq_eq_false_iff_ne.mpr c5
   have c5b1 : (a0_0 != 64) = true := bne_iff_ne.mpr c5
   simp only [Option.some.injEq, Prod.mk.injEq] at H
   obtain ⟨rfl, rfl, rfl⟩ := H
   go_enter Try.func14, Try.ntmps14
   go_wp2_with (first | ((with_reducible refine gate_dst (N := 1) rfl ?_); refine box_event ?hg (N := 1) ?hd (cs := #[.int .i64 a0_0, .slice A0_1 l0_1.length c0_1]) (t := 25) ?hr ?_; (case hd => rfl); (case hg => rfl); (case hr => first | (go_simp; done) | (go_simp; rfl)); intro gb567 hg w20 hbox hb; have n_ : _ ∧ _ ∧ _ ∧ _ := ⟨AsM (below_step BL hb), AsM (hbox), AsM ((GL : w.heap.size ≤ gb567)), AsM ((GL : w.heap.size ≤ gb567))⟩; clear HB; obtain ⟨HB, BK567, GW567, GE567⟩ := n_; clear hb hbox hg) | ((with_reducible refine gate_dst (N := 2) rfl ?_); refine box_event ?hg (N := 2) ?hd (cs := #[.int .i64 0, .slice none 0 0]) (t := 25) ?hr ?_; (case hd => rfl); (case hg => rfl); (case hr => first | (go_simp; done) | (go_simp; rfl)); intro gb568 hg w21 hbox hb; have n_ : _ ∧ _ ∧ _ ∧ _ ∧ _ ∧ _ ∧ _ := ⟨AsM (blk_below (BD BK567) hb), AsM (below_step BG hb), AsM (hbox), AsM ((GM : w.heap.size ≤ gb568)), AsM ((GM : w.heap.size ≤ gb568)), AsM ((impl_Grow.z0 : gb567 ≠ gb568)), AsM ((impl_Grow.z1 : gb568 ≠ gb567))⟩; clear BK567 HB; obtain ⟨BK567, HB, BK568, GW568, GE568, NB567_568, NB568_567⟩ := n_; clear hb hbox hg; have hnb22 := NB567_568.out; have hnc22 := NB568_567.out; obtain ⟨hcz23_0, hcz23_1, hfz23_0, hfz23_1⟩ := bk2 BK567.out) | ((with_reducible refine gate_callee (f := 7) rfl ?_); refine goesL_ (some 6) rfl rfl Try.func7 (by kernel_rfl) rfl #[.agg #[.int .i64 a0_0, .slice A0_1 l0_1.length c0_1]] rfl AQ ?_; (with_reducible refine (impl_TableOk.calls k a0_0 _ _ l0_1 true _ ?side1 ?side2 A2.out).mono ?_); (case side1 => exact SC HR0_1); (case side2 => exact HC0_1.out); rintro e w24 ⟨rfl, hb⟩; refine ⟨_, rfl, ?_⟩; have n_ : _ ∧ _ ∧ _ := ⟨AsM (blk_below (BD BK567) hb), AsM (blk_below (BD BK568) hb), AsM (below_step BG hb)⟩; clear BK567 BK568 HB; obtain ⟨BK567, BK568, HB⟩ := n_; (try clear hb); (try clear hb2); (try clear hk); (try clear hi); obtain ⟨hcz25_0, hcz25_1, hfz25_0, hfz25_1⟩ := bk2 BK567.out) | ((with_reducible refine gate_callee (f := 33) rfl ?_); refine goesL_ (some 10) rfl rfl Try.func33 (by kernel_rfl) rfl #[.agg #[.int .i64 a0_0, .slice A0_1 l0_1.length c0_1]] rfl AQ ?_; (with_reducible refine (impl_copyTable.calls a0_0 _ _ l0_1 t570 t571 _ ?side1 ?side2 A4.out).mono ?_); (case side1 => exact SC HR0_1); (case side2 => exact HC0_1.out); rintro e w26 ⟨v572, rfl, ho0, hb⟩; refine ⟨_, rfl, ?_⟩; have n_ : _ ∧ _ ∧ _ ∧ _ := ⟨AsM (Kd.R_lower ho0 (below_size BG)), AsM (blk_below (BD BK567) hb), AsM (blk_below (BD BK568) hb), AsM (below_step BG hb)⟩; clear BK567 BK568 HB; obtain ⟨HO573, BK567, BK568, HB⟩ := n_; (try clear hb); (try clear hb2); (try clear hk); (try clear hi); (try clear ho0)) | ((with_reducible refine gate_dst (N := 4) rfl ?_); refine box_event ?hg (N := 4) ?hd (cs := #[.int .i64 0, .slice none 0 0]) (t := 25) ?hr ?_; (case hd => rfl); (case hg => rfl); (case hr => first | (go_simp; done) | (go_simp; rfl)); intro gb574 hg w27 hbox hb; have n_ : _ ∧ _ ∧ _ ∧ _ ∧ _ ∧ _ ∧ _ ∧ _ ∧ _ ∧ _ ∧ _ := ⟨AsM (Kd.R_below (RD HO573) hb), AsM (blk_below (BD BK567) hb), AsM (blk_below (BD BK568) hb), AsM (below_step BG hb), AsM (hbox), AsM ((GM : w.heap.size ≤ gb574)), AsM ((GM : w.heap.size ≤ gb574)), AsM ((impl_Grow.z0 : gb567 ≠ gb574)), AsM ((impl_Grow.z1 : gb574 ≠ gb567)), AsM ((by rw [hg]; exact Nat.ne_of_lt (blk_lt (BD BK568)) : gb568 ≠ gb574)), AsM ((by rw [hg]; exact Nat.ne_of_gt (blk_lt (BD BK568)) : gb574 ≠ gb568))⟩; clear HO573 BK567 BK568 HB; obtain ⟨HO573, BK567, BK568, HB, BK574, GW574, GE574, NB567_574, NB574_567, NB568_574, NB574_568⟩ := n_; clear hb hbox hg; have hnb28 := NB574_567.out; have hnc28 := NB567_574.out; have hnb29 := NB574_568.out; have hnc29 := NB568_574.out; obtain ⟨hcz30_0, hcz30_1, hfz30_0, hfz30_1⟩ := bk2 BK574.out; obtain ⟨Ao31, co31, eo31⟩ := Kd.R_slice HO573.out; subst eo31; obtain ⟨hcz32_0, hcz32_1, hfz32_0, hfz32_1⟩ := bk2 BK567.out; obtain ⟨hcz33_0, hcz33_1, hfz33_0, hfz33_1⟩ := bk2 BK568.out))
   refine bodyPost_ret (results_ct rfl _ _ gb568 25 #[.int .i64 (wrap64 (2 * a0_0)), .slice Ao31 t571.length co31] (0, 0) _ rfl (by refine PX ?_; refine blk_put (cs := #[.int .i64 (wrap64 (2 * a0_0)), .slice none 0 0]) ?_ 1 _ rfl; refine PX ?_; refine blk_put (cs := #[.int .i64 0, .slice none 0 0]) ?_ 0 _ rfl; refine PX ?_; refine blk_far ?_ NB568_574.out _; refine PX ?_; refine blk_far ?_ NB568_574.out _; refine PX ?_; refine blk_far ?_ NB568_574.out _; exact BD BK568) Try.underlying25 rfl (by kernel_rfl)) rfl ?_
   exact ⟨_, ER, by refine PRx ?_; exact Kd.R_mono (FR (FR (Kd.R_far (p := ⟨gb574, 0, none⟩) (Kd.R_far (p := ⟨gb574, 1, none⟩) (Kd.R_far (p := ⟨gb574, 0, none⟩) (Kd.R_types (Kd.R_types HO573.out BK574.out (by decide)) BK568.out (by decide)) (fun _ hk => hk.1.2) (.int .i64 t570)) (fun _ hk => hk.1.2) (.slice Ao31 t571.length co31)) (fun _ hk => hk.1.2) (.int .i64 (wrap64 (2 * a0_0)))))) (fun _ hk => trivial), BG⟩
 ·replace c3 := Bool.eq_false_iff.mpr c3
  subst c3
  replace H := IN H
  simp only [Option.some.injEq, Prod.mk.injEq] at H
  obtain ⟨rfl, rfl, rfl⟩ := H
  go_enter Try.func14, Try.ntmps14
  go_wp2_with (first | ((with_reducible refine gate_dst (N := 1) rfl ?_); refine box_event ?hg (N := 1) ?hd (cs := #[.int .i64 a0_0, .slice A0_1 l0_1.length c0_1]) (t := 25) ?hr ?_; (case hd => rfl); (case hg => rfl); (case hr => first | (go_simp; done) | (go_simp; rfl)); intro gb567 hg w34 hbox hb; have n_ : _ ∧ _ ∧ _ ∧ _ := ⟨AsM (below_step BL hb), AsM (hbox), AsM ((GL : w.heap.size ≤ gb567)), AsM ((GL : w.heap.size ≤ gb567))⟩; clear HB; obtain ⟨HB, BK567, GW567, GE567⟩ := n_; clear hb hbox hg) | ((with_reducible refine gate_dst (N := 2) rfl ?_); refine box_event ?hg (N := 2) ?hd (cs := #[.int .i64 0, .slice none 0 0]) (t := 25) ?hr ?_; (case hd => rfl); (case hg => rfl); (case hr => first | (go_simp; done) | (go_simp; rfl)); intro gb568 hg w35 hbox hb; have n_ : _ ∧ _ ∧ _ ∧ _ ∧ _ ∧ _ ∧ _ := ⟨AsM (blk_below (BD BK567) hb), AsM (below_step BG hb), AsM (hbox), AsM ((GM : w.heap.size ≤ gb568)), AsM ((GM : w.heap.size ≤ gb568)), AsM ((impl_Grow.z0 : gb567 ≠ gb568)), AsM ((impl_Grow.z1 : gb568 ≠ gb567))⟩; clear BK567 HB; obtain ⟨BK567, HB, BK568, GW568, GE568, NB567_568, NB568_567⟩ := n_; clear hb hbox hg; have hnb36 := NB567_568.out; have hnc36 := NB568_567.out; obtain ⟨hcz37_0, hcz37_1, hfz37_0, hfz37_1⟩ := bk2 BK567.out) | ((with_reducible refine gate_callee (f := 7) rfl ?_); refine goesL_ (some 6) rfl rfl Try.func7 (by kernel_rfl) rfl #[.agg #[.int .i64 a0_0, .slice A0_1 l0_1.length c0_1]] rfl AQ ?_; (with_reducible refine (impl_TableOk.calls k a0_0 _ _ l0_1 false _ ?side1 ?side2 A2.out).mono ?_); (case side1 => exact SC HR0_1); (case side2 => exact HC0_1.out); rintro e w38 ⟨rfl, hb⟩; refine ⟨_, rfl, ?_⟩; have n_ : _ ∧ _ ∧ _ := ⟨AsM (blk_below (BD BK567) hb), AsM (blk_below (BD BK568) hb), AsM (below_step BG hb)⟩; clear BK567 BK568 HB; obtain ⟨BK567, BK568, HB⟩ := n_; (try clear hb); (try clear hb2); (try clear hk); (try clear hi); obtain ⟨hcz39_0, hcz39_1, hfz39_0, hfz39_1⟩ := bk2 BK568.out))
  refine bodyPost_ret (results_ct rfl _ _ gb568 25 #[.int .i64 0, .slice none 0 0] (0, 0) _ rfl (by refine PX ?_; refine blk_put (cs := #[.int .i64 0, .slice none 0 0]) ?_ 1 _ rfl; refine PX ?_; refine blk_put (cs := #[.int .i64 0, .slice none 0 0]) ?_ 0 _ rfl; exact BD BK568) Try.underlying25 rfl (by kernel_rfl)) rfl ?_
  exact ⟨_, ER, by first | exact Kd.R_nil _ _ _ _ _ | exact Kd.N_nil _ _ _ _ _ | exact Kd.V_nil _ _ _ _ _ | exact Kd.Q_nil _ _ _ _ _ | exact Kd.S_nil _ _ _ _ _, BG⟩
def laws_hasText.l0 : Nat → ByteArray → List ByteArray → Int → Int → Option (Bool)
 | 0, _, _, _, _ => none
 | k + 1, x1, x7, x8, x9 => if x9 < x8 then (if 0 ≤ x9 then (if x9 < (x7.length : Int) then (if (rdOf ByteArray.empty x7 x9).toList = x1.toList then (some true) else (laws_hasText.l0 k x1 x7 x8 (wrap64 (x9 + 1)))) else (none)) else (none)) else (some false)
def laws_hasText.f (k : Nat) (l0 : List ByteArray) (a1 : ByteArray) : Option (Bool) := laws_hasText.l0 k a1 l0 (l0.length : Int) 0
theorem laws_hasText.mono_l : ∀ k, (∀ y0 y1 y2 y3, LeO (laws_hasText.l0 k y0 y1 y2 y3) (laws_hasText.l0 (k + 1) y0 y1 y2 y3))
 | 0 => fun _ _ _ _ r h => by simp [laws_hasText.l0] at h
 | k + 1 => by
  have ih0 := laws_hasText.mono_l k
  ·intro y0 y1 y2 y3
   unfold laws_hasText.l0
   repeat' first | (with_reducible first | exact ih0 _ _ _ _ | exact LeO.refl _ | exact LeO.none _ | refine LeO.ite ?_ ?_ | refine LeO.bind ?_ (fun _ => ?_)) | exact ih0 _ _ _ _ | exact LeO.none _ | refine LeO.ite ?_ ?_ | refine LeO.bind ?_ (fun _ => ?_)
theorem laws_hasText.mono : ∀ a0 a1 k, LeO (laws_hasText.f k a0 a1) (laws_hasText.f (k + 1) a0 a1) := by
 intro a0 a1 k
 have ih0 := laws_hasText.mono_l k
 unfold laws_hasText.f
 repeat' first | (with_reducible first | exact ih0 _ _ _ _ | exact LeO.refl _ | exact LeO.none _ | refine LeO.ite ?_ ?_ | refine LeO.bind ?_ (fun _ => ?_)) | exact ih0 _ _ _ _ | exact LeO.none _ | refine LeO.ite ?_ ?_ | refine LeO.bind ?_ (fun _ => ?_)
set_option maxHeartbeats 8000000 in
set_option maxRecDepth 100000 in
theorem laws_hasText.calls (k : Nat) (A0 : Option Addr) (c0 : Nat) (l0 : List ByteArray) (a1 : ByteArray) (r : Bool) (w : World) (hr0 : Kd.C Kd.string w A0 l0.length l0) (hc0 : l0.length ≤ c0) (h : laws_hasText.f k l0 a1 = some r) :
  Calls Try.prog 9 #[.slice A0 l0.length c0, .string a1] w fun e w' => e = .returned (.bool r) ∧ Drawn0 w w' := by
 have HR0 := Aside0.mk hr0
 have HC0 := Aside0.mk hc0
 clear hr0 hc0
 have H : (laws_hasText.l0 k a1 l0 (l0.length : Int) 0) = some r := h
 clear h
 have H' := Aside0.mk H
 clear H
 go_enter Try.func9, Try.ntmps9
 go_wp2
 go_loopg [9] k (fun kq v9 w' => ∃ (x9_1 : Int), v9 = .int .i64 x9_1 ∧ Aside0 (laws_hasText.l0 kq a1 l0 (l0.length : Int) x9_1 = some r) ∧ Aside0 (kq ≤ k) ∧ Drawn0 w w')
 case atStart => exact ⟨(0), RS, H', ⟨Nat.le_refl _⟩, DR⟩
 case round =>
  clear H'
  try clear p2
  obtain ⟨x9_1, rfl, HA, HK1, ⟨m1, rfl⟩⟩ := hrel
  cases gk with
  | zero => exact absurd HA.out (by simp [laws_hasText.l0])
  | succ k1 =>
   have H := HA.out
   clear HA
   simp only [laws_hasText.l0] at H
   by_cases c3 : x9_1 < (l0.length : Int)
   ·rw [if_pos c3] at H
    have c3b0 : decide (x9_1 < (l0.length : Int)) = true := decide_eq_true c3
    clear c3
    by_cases c4 : 0 ≤ x9_1
    ·rw [if_pos c4] at H
     have c4b0 : decide (0 ≤ x9_1) = true := decide_eq_true c4
     clear c4
     by_cases c5 : x9_1 < (l0.length : Int)
     ·rw [if_pos c5] at H
      have c5b0 : decide (x9_1 < (l0.length : Int)) = true := decide_eq_true c5
      clear c5
      by_cases c6 : (rdOf ByteArray.empty l0 x9_1).toList = a1.toList
      ·rw [if_pos c6] at H
       have c6b0 : ((rdOf ByteArray.empty l0 x9_1).toList == a1.toList) = true := beq_iff_eq.mpr c6
       have c6b1 : ((rdOf ByteArray.empty l0 x9_1).toList != a1.toList) = false := bne_eq_false_iff_eq.mpr c6
       clear c6
       obtain rfl := Option.some.inj H
       have p467 : 0 ≤ (x9_1 : Int) := of_decide_eq_true AS
       have q467 : x9_1 < (l0.length : Int) := of_decide_eq_true AS
       obtain ⟨ad467, e467, hx467_0⟩ := Kd.at_string HR0.out x9_1 p467 q467
       cases e467
       replace p467 := eq_true p467
       replace q467 := eq_true q467
       go_wp2
       go_ret
       exact ⟨by first | rfl | (simp; done) | (simp [*]; done), DR⟩
      ·rw [if_neg c6] at H
       have c6b0 : ((rdOf ByteArray.empty l0 x9_1).toList == a1.toList) = false := beq_eq_false_iff_ne.mpr c6
       have c6b1 : ((rdOf ByteArray.empty l0 x9_1).toList != a1.toList) = true := bne_iff_ne.mpr c6
       have H' := Aside0.mk H
       clear H
       have p467 : 0 ≤ (x9_1 : Int) := of_decide_eq_true AS
       have q467 : x9_1 < (l0.length : Int) := of_decide_eq_true AS
       obtain ⟨ad467, e467, hx467_0⟩ := Kd.at_string HR0.out x9_1 p467 q467
       cases e467
       replace p467 := eq_true p467
       replace q467 := eq_true q467
       go_wp2
       go_roundg k1
       case measure => have := HK1.out; omega
       case rel => exact ⟨(wrap64 (x9_1 + 1)), RS, H', ⟨by have := HK1.out; omega⟩, DR⟩
     ·rw [if_neg c5] at H
      exact absurd H (by simp)
    ·rw [if_neg c4] at H
     exact absurd H (by simp)
   ·rw [if_neg c3] at H
    have c3b0 : decide (x9_1 < (l0.length : Int)) = false := decide_eq_false c3
    clear c3
    obtain rfl := Option.some.inj H
    go_wp2
    go_ret
    exact ⟨by first | rfl | (simp; done) | (simp [*]; done), DR⟩
def laws_but.l0 : Nat → ByteArray → List ByteArray → List ByteArray → Int → Int → Option (List ByteArray)
 | 0, _, _, _, _, _ => none
 | k + 1, x1, x5, x9, x10, x11 => if x11 < x10 then (if 0 ≤ x11 then (if x11 < (x9.length : Int) then (if (rdOf ByteArray.empty x9 x11).toList = x1.toList then (laws_but.l0 k x1 x5 x9 x10 (wrap64 (x11 + 1))) else (if x5.length < 8796093022208 then (laws_but.l0 k x1 (x5 ++ [rdOf ByteArray.empty x9 x11]) x9 x10 (wrap64 (x11 + 1))) else (none))) else (none)) else (none)) else (some x5)
def laws_but.f (k : Nat) (l0 : List ByteArray) (a1 : ByteArray) : Option (List ByteArray) := laws_but.l0 k a1 (([] : List ByteArray)) l0 (l0.length : Int) 0
theorem laws_but.mono_l : ∀ k, (∀ y0 y1 y2 y3 y4, LeO (laws_but.l0 k y0 y1 y2 y3 y4) (laws_but.l0 (k + 1) y0 y1 y2 y3 y4))
 | 0 => fun _ _ _ _ _ r h => by simp [laws_but.l0] at h
 | k + 1 => by
  have ih0 := laws_but.mono_l k
  ·intro y0 y1 y2 y3 y4
   unfold laws_but.l0
   repeat' first | (with_reducible first | exact ih0 _ _ _ _ _ | exact LeO.refl _ | exact LeO.none _ | refine LeO.ite ?_ ?_ | refine LeO.bind ?_ (fun _ => ?_)) | exact ih0 _ _ _ _ _ | exact LeO.none _ | refine LeO.ite ?_ ?_ | refine LeO.bind ?_ (fun _ => ?_)
theorem laws_but.mono : ∀ a0 a1 k, LeO (laws_but.f k a0 a1) (laws_but.f (k + 1) a0 a1) := by
 intro a0 a1 k
 have ih0 := laws_but.mono_l k
 unfold laws_but.f
 repeat' first | (with_reducible first | exact ih0 _ _ _ _ _ | exact LeO.refl _ | exact LeO.none _ | refine LeO.ite ?_ ?_ | refine LeO.bind ?_ (fun _ => ?_)) | exact ih0 _ _ _ _ _ | exact LeO.none _ | refine LeO.ite ?_ ?_ | refine LeO.bind ?_ (fun _ => ?_)
theorem laws_but.z0 {P : Prop} (h : P := by repeat (first | (with_reducible first | exact HB.out | apply below_alloc | apply pw_below_drewN | apply below_drew1) | exact HB.out)) : P := h
set_option maxHeartbeats 8000000 in
set_option maxRecDepth 100000 in
theorem laws_but.calls (k : Nat) (A0 : Option Addr) (c0 : Nat) (l0 : List ByteArray) (a1 : ByteArray) (r : List ByteArray) (w : World) (hr0 : Kd.C Kd.string w A0 l0.length l0) (hc0 : l0.length ≤ c0) (h : laws_but.f k l0 a1 = some r) :
  Calls Try.prog 12 #[.slice A0 l0.length c0, .string a1] w fun e w' => ∃ v0_ : Value, e = .returned (v0_) ∧ Kd.R Kd.string 9 w' w.heap.size (fun _ => True) v0_ r ∧ Below w.heap.size w w' := by
 have HR0 := Aside0.mk hr0
 have HC0 := Aside0.mk hc0
 clear hr0 hc0
 have HB := Aside0.mk (Below.refl w.heap.size w)
 have H : (laws_but.l0 k a1 (([] : List ByteArray)) l0 (l0.length : Int) 0) = some r := h
 clear h
 obtain ⟨y498, hy498⟩ : ∃ y_ : List ByteArray, y_ = (([] : List ByteArray)) := ⟨_, rfl⟩
 replace H : (laws_but.l0 k a1 y498 l0 (l0.length : Int) 0) = some r := by first | (rw [hy498]; with_reducible exact H) | (have H2_ := (Option.bind_some _ _).symm.trans H; rw [hy498]; with_reducible exact H2_) | (have H2_ := (Option.bind_some _ _).symm.trans H; with_reducible exact H2_) | with_reducible exact H | (rw [hy498]; exact H) | exact H
 have Ny498 := Aside0.mk hy498
 clear hy498
 have H' := Aside0.mk H
 clear H
 go_enter Try.func12, Try.ntmps12
 go_wp2_with (first | ((with_reducible refine gate_dst (N := 8) rfl ?_); refine Kd.R_lit Kd.string _ 9 ?hg (N := 8) ?hd (xs := ([] : List ByteArray)) (inner := []) (ok := fun _ => True) (okp := fun _ => True) ?hr ?hp (fun _ hk => hk) trivial (Below.refl _ _) (Nat.le_refl _) (by simp) ?_; (case hd => rfl); (case hg => rfl); (case hr => first | (go_simp; done) | (go_simp; rfl)); (case hp => exact (Reps.none _ _)); intro v499 w3 ho4 hb hg_ hnew_; clear hg_ hnew_; (first | rw [← Ny498.out] at ho4 | (simp only [Int.reduceToNat] at ho4; rw [← Ny498.out] at ho4)); have n_ : _ ∧ _ := ⟨AsM (Kd.R_lower ho4 (below_size BL)), AsM (below_step BL hb)⟩; clear HB; obtain ⟨HO500, HB⟩ := n_; clear hb ho4))
 go_loopg [5, 11] k (fun kq v5 v11 w' => ∃ (x5_1 : List ByteArray) (x11_1 : Int), v11 = .int .i64 x11_1 ∧ Aside0 (laws_but.l0 kq a1 x5_1 l0 (l0.length : Int) x11_1 = some r) ∧ Aside0 (kq ≤ k) ∧ Aside0 (Kd.R Kd.string 9 w' w.heap.size (fun _ => True) v5 x5_1) ∧ Aside0 (Below w.heap.size w w'))
 case atStart => exact ⟨(y498), (0), RS, H', ⟨Nat.le_refl _⟩, ⟨RD HO500⟩, ⟨laws_but.z0⟩⟩
 case round =>
  clear H'
  try clear c1
  try clear p2
  obtain ⟨x5_1, x11_1, rfl, HA, HK1, HO_5, HB⟩ := hrel
  cases gk with
  | zero => exact absurd HA.out (by simp [laws_but.l0])
  | succ k1 =>
   have H := HA.out
   clear HA
   simp only [laws_but.l0] at H
   by_cases c5 : x11_1 < (l0.length : Int)
   ·rw [if_pos c5] at H
    have c5b0 : decide (x11_1 < (l0.length : Int)) = true := decide_eq_true c5
    clear c5
    by_cases c6 : 0 ≤ x11_1
    ·rw [if_pos c6] at H
     have c6b0 : decide (0 ≤ x11_1) = true := decide_eq_true c6
     clear c6
     by_cases c7 : x11_1 < (l0.length : Int)
     ·rw [if_pos c7] at H
      have c7b0 : decide (x11_1 < (l0.length : Int)) = true := decide_eq_true c7
      clear c7
      by_cases c8 : (rdOf ByteArray.empty l0 x11_1).toList = a1.toList
      ·rw [if_pos c8] at H
       have c8b0 : ((rdOf ByteArray.empty l0 x11_1).toList == a1.toList) = true := beq_iff_eq.mpr c8
       have c8b1 : ((rdOf ByteArray.empty l0 x11_1).toList != a1.toList) = false := bne_eq_false_iff_eq.mpr c8
       clear c8
       have H' := Aside0.mk H
       clear H
       have p501 : 0 ≤ (x11_1 : Int) := of_decide_eq_true AS
       have q501 : x11_1 < (l0.length : Int) := of_decide_eq_true AS
       obtain ⟨ad501, e501, hx501_0⟩ := Kd.at_string HR0.out x11_1 p501 q501
       cases e501
       replace hx501_0 := (HB.out.cell (World.block_lt_of_cell? w _ hx501_0)).trans hx501_0
       replace p501 := eq_true p501
       replace q501 := eq_true q501
       go_wp2
       go_roundg k1
       case measure => have := HK1.out; omega
       case rel => exact ⟨(x5_1), (wrap64 (x11_1 + 1)), RS, H', ⟨by have := HK1.out; omega⟩, ⟨RD HO_5⟩, ⟨laws_but.z0⟩⟩
      ·rw [if_neg c8] at H
       have c8b0 : ((rdOf ByteArray.empty l0 x11_1).toList == a1.toList) = false := beq_eq_false_iff_ne.mpr c8
       have c8b1 : ((rdOf ByteArray.empty l0 x11_1).toList != a1.toList) = true := bne_iff_ne.mpr c8
       by_cases c9 : x5_1.length < 8796093022208
       ·rw [if_pos c9] at H
        have LMc9 := Aside0.mk c9
        clear c9
        obtain ⟨y502, hy502⟩ : ∃ y_ : List ByteArray, y_ = (x5_1 ++ [rdOf ByteArray.empty l0 x11_1]) := ⟨_, rfl⟩
        replace H : (laws_but.l0 k1 a1 y502 l0 (l0.length : Int) (wrap64 (x11_1 + 1))) = some r := by first | (rw [hy502]; with_reducible exact H) | (have H2_ := (Option.bind_some _ _).symm.trans H; rw [hy502]; with_reducible exact H2_) | (have H2_ := (Option.bind_some _ _).symm.trans H; with_reducible exact H2_) | with_reducible exact H | (rw [hy502]; exact H) | exact H
        have Ny502 := Aside0.mk hy502
        clear hy502
        have H' := Aside0.mk H
        clear H
        have p501 : 0 ≤ (x11_1 : Int) := of_decide_eq_true AS
        have q501 : x11_1 < (l0.length : Int) := of_decide_eq_true AS
        obtain ⟨ad501, e501, hx501_0⟩ := Kd.at_string HR0.out x11_1 p501 q501
        cases e501
        replace hx501_0 := (HB.out.cell (World.block_lt_of_cell? w _ hx501_0)).trans hx501_0
        replace p501 := eq_true p501
        replace q501 := eq_true q501
        go_wp2_with (first | ((with_reducible refine gate_builtin (b := .append) (xs := #[.tmp 18, .tmp 20]) rfl ?_); at_builtin; refine Kd.R_append Kd.string (w0 := w) w.heap.size rfl (.tmp 18) (.tmp 20) 27 9 (.string ⟨#[]⟩) 16 rfl Try.underlying27 info9 rfl (by decide) (by omega) u5 x5_1 (rdOf ByteArray.empty l0 x11_1) [.string (rdOf ByteArray.empty l0 x11_1)] (fun _ => True) (fun _ => False) rfl rfl ?aP (fun _ hk => hk.elim) ?aF ?aO ?aB ?aS ?aL ?_; (case aP => exact rfl); (case aB => exact BL); (case aF => exact (fun _ _ => trivial)); (case aO => exact (RD HO_5)); (case aS => exact (below_size BL)); (case aL => have := LMc9.out; omega); intro v503 w10 ho hb hg hat; rw [← Ny502.out] at ho; have n_ : _ ∧ _ := ⟨AsM (hb), AsM (ho)⟩; clear HB HO_5; obtain ⟨HB, HO504⟩ := n_; clear ho hb hg hat))
        go_roundg k1
        case measure => have := HK1.out; omega
        case rel => exact ⟨(y502), (wrap64 (x11_1 + 1)), RS, H', ⟨by have := HK1.out; omega⟩, ⟨RD HO504⟩, ⟨laws_but.z0⟩⟩
       ·rw [if_neg c9] at H
        exact absurd H (by simp)
     ·rw [if_neg c7] at H
      exact absurd H (by simp)
    ·rw [if_neg c6] at H
     exact absurd H (by simp)
   ·rw [if_neg c5] at H
    have c5b0 : decide (x11_1 < (l0.length : Int)) = false := decide_eq_false c5
    clear c5
    obtain rfl := Option.some.inj H
    go_wp2
    go_ret
    exact ⟨_, ER, RD HO_5, BL⟩
end Go.Proofs.Ytbjlldjkkdiblaa.G
