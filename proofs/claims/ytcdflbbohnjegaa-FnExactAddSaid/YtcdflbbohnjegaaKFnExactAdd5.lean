/- Part 5 of the claim FnExactAdd, merged by pack.py (this session's program) out of: the print's words, cut to what is needed; texts that gen.py printed (it runs the kit's print in place); texts of this session. -/
import Derived.Test.YtcdflbbohnjegaaKFnExactAdd1
import Derived.Test.YtcdflbbohnjegaaKFnExactAdd2
import Derived.Test.YtcdflbbohnjegaaKFnExactAdd3
import Derived.Test.YtcdflbbohnjegaaKFnExactAdd4
namespace Go.Proofs.Ytcdflbbohnjegaa.Sh
end Go.Proofs.Ytcdflbbohnjegaa.Sh
namespace Go.Proofs.Ytcdflbbohnjegaa.G
open Go.RowKit Go.Proofs.YtcdflbbohnjegaaW.PrintWords Go.Proofs.YtcdflbbohnjegaaW.PrintLast Go.Proofs.YtcdflbbohnjegaaW.PrintMore Go.Proofs.Ytcdflbbohnjegaa.Sh
attribute [local go_sem] max2_int min2_int max_two min_two max_three min_three max_four min_four
set_option linter.unusedVariables false
set_option linter.unusedSimpArgs false
mutual
def laws_FnExactAdd.j0 : Nat → ByteArray → Bool → Bool → Bool → Int → List (S78) → Int → List (S50) → Int → List (S50) → Int → List (S50) → Option (Bool)
 | 0, _, _, _, _, _, _, _, _, _, _, _, _ => none
 | k + 1, x1, x7, x10, x47, x794000, x794001, x805000, x805001, x810000, x810001, x816000, x816001 => if x47 = true then (none) else ((laws_toTable.f k x794000 x794001).bind fun bt817 => ((laws_eqTable.f k x810000 x810001 bt817.1 bt817.2).bind fun t821 => (if t821 = true then ((laws_markTable.f k x810000 x810001 1).bind fun bt822 => (if bt822.1 < 0 then (laws_FnExactAdd.j1 k x1 x7 true x794000 x794001 x805000 x805001 x816000 x816001) else ((laws_eqTable.f k x816000 x816001 x805000 x805001).bind fun t824 => (if t824 = true then (laws_FnExactAdd.j1 k x1 x7 (x10 != x7) x794000 x794001 x805000 x805001 x816000 x816001) else (laws_FnExactAdd.j1 k x1 x7 true x794000 x794001 x805000 x805001 x816000 x816001))))) else (none))))
def laws_FnExactAdd.j1 : Nat → ByteArray → Bool → Bool → Int → List (S78) → Int → List (S50) → Int → List (S50) → Option (Bool)
 | 0, _, _, _, _, _, _, _, _, _ => none
 | k + 1, x1, x7, x68, x794000, x794001, x805000, x805001, x816000, x816001 => if x68 = true then (none) else ((laws_markTable.f k x816000 x816001 1).bind fun bt825 => ((laws_heldTable.f k x816000 bt825.2 1).bind fun t827 => (if t827 < 0 then (none) else (if t827 = bt825.1 then ((laws_toTable.f k x794000 x794001).bind fun bt828 => ((impl_Add.f k bt828.1 bt828.2 x1).bind fun bt832 => ((laws_eqTable.f k bt832.1 bt832.2.1 x805000 x805001).bind fun t838 => (if t838 = true then (laws_FnExactAdd.j2 k bt825.1 (bt832.2.2 != x7) x816000 bt825.2) else (laws_FnExactAdd.j2 k bt825.1 true x816000 bt825.2))))) else (none)))))
def laws_FnExactAdd.j2 : Nat → Int → Bool → Int → List (S50) → Option (Bool)
 | 0, _, _, _, _ => none
 | k + 1, x12, x95, x816000, x816001 => if x95 = true then (none) else ((laws_heldTable.f k x816000 x816001 1).bind fun t839 => (if t839 < 0 then (none) else (if t839 = x12 then (some true) else (none))))
end
def laws_FnExactAdd.f (k : Nat) (a0_0 : Int) (l0_1 : List (S78)) (a1 : ByteArray) : Option (Bool) := if (a1.size : Int) > 1048576 then (some true) else ((laws_szTable.f k a0_0 l0_1 1048576).bind fun t794 => (if t794 < 0 then (some true) else ((laws_toTable.f k a0_0 l0_1).bind fun bt795 => ((spec_Add.f k bt795.1 bt795.2 a1).bind fun bt799 => ((laws_toTable.f k a0_0 l0_1).bind fun bt805 => ((impl_Add.f k bt805.1 bt805.2 a1).bind fun bt810 => ((laws_eqTable.f k bt810.1 bt810.2.1 bt799.1 bt799.2.1).bind fun t816 => (if t816 = true then (laws_FnExactAdd.j0 k a1 bt799.2.2 bt810.2.2 (bt810.2.2 != bt799.2.2) a0_0 l0_1 bt799.1 bt799.2.1 bt805.1 bt805.2 bt810.1 bt810.2.1) else (laws_FnExactAdd.j0 k a1 bt799.2.2 bt810.2.2 true a0_0 l0_1 bt799.1 bt799.2.1 bt805.1 bt805.2 bt810.1 bt810.2.1)))))))))
theorem laws_FnExactAdd.mono_l : ∀ k, (∀ y0 y1 y2 y3 y4 y5 y6 y7 y8 y9 y10 y11, LeO (laws_FnExactAdd.j0 k y0 y1 y2 y3 y4 y5 y6 y7 y8 y9 y10 y11) (laws_FnExactAdd.j0 (k + 1) y0 y1 y2 y3 y4 y5 y6 y7 y8 y9 y10 y11)) ∧ (∀ y0 y1 y2 y3 y4 y5 y6 y7 y8, LeO (laws_FnExactAdd.j1 k y0 y1 y2 y3 y4 y5 y6 y7 y8) (laws_FnExactAdd.j1 (k + 1) y0 y1 y2 y3 y4 y5 y6 y7 y8)) ∧ (∀ y0 y1 y2 y3, LeO (laws_FnExactAdd.j2 k y0 y1 y2 y3) (laws_FnExactAdd.j2 (k + 1) y0 y1 y2 y3))
 | 0 => ⟨fun _ _ _ _ _ _ _ _ _ _ _ _ r h => by simp [laws_FnExactAdd.j0] at h, fun _ _ _ _ _ _ _ _ _ r h => by simp [laws_FnExactAdd.j1] at h, fun _ _ _ _ r h => by simp [laws_FnExactAdd.j2] at h⟩
 | k + 1 => by
  obtain ⟨ih0, ih1, ih2⟩ := laws_FnExactAdd.mono_l k
  refine ⟨?_, ?_, ?_⟩
  ·intro y0 y1 y2 y3 y4 y5 y6 y7 y8 y9 y10 y11
   unfold laws_FnExactAdd.j0
   repeat' first | (with_reducible first | exact ih0 _ _ _ _ _ _ _ _ _ _ _ _ | exact ih1 _ _ _ _ _ _ _ _ _ | exact ih2 _ _ _ _ | exact impl_Add.mono _ _ _ _ | exact laws_eqTable.mono _ _ _ _ _ | exact laws_heldTable.mono _ _ _ _ | exact laws_markTable.mono _ _ _ _ | exact laws_szTable.mono _ _ _ _ | exact laws_toTable.mono _ _ _ | exact spec_Add.mono _ _ _ _ | exact LeO.refl _ | exact LeO.none _ | refine LeO.ite ?_ ?_ | refine LeO.bind ?_ (fun _ => ?_)) | exact ih0 _ _ _ _ _ _ _ _ _ _ _ _ | exact ih1 _ _ _ _ _ _ _ _ _ | exact ih2 _ _ _ _ | exact impl_Add.mono _ _ _ _ | exact laws_eqTable.mono _ _ _ _ _ | exact laws_heldTable.mono _ _ _ _ | exact laws_markTable.mono _ _ _ _ | exact laws_szTable.mono _ _ _ _ | exact laws_toTable.mono _ _ _ | exact spec_Add.mono _ _ _ _ | exact LeO.none _ | refine LeO.ite ?_ ?_ | refine LeO.bind ?_ (fun _ => ?_)
  ·intro y0 y1 y2 y3 y4 y5 y6 y7 y8
   unfold laws_FnExactAdd.j1
   repeat' first | (with_reducible first | exact ih0 _ _ _ _ _ _ _ _ _ _ _ _ | exact ih1 _ _ _ _ _ _ _ _ _ | exact ih2 _ _ _ _ | exact impl_Add.mono _ _ _ _ | exact laws_eqTable.mono _ _ _ _ _ | exact laws_heldTable.mono _ _ _ _ | exact laws_markTable.mono _ _ _ _ | exact laws_szTable.mono _ _ _ _ | exact laws_toTable.mono _ _ _ | exact spec_Add.mono _ _ _ _ | exact LeO.refl _ | exact LeO.none _ | refine LeO.ite ?_ ?_ | refine LeO.bind ?_ (fun _ => ?_)) | exact ih0 _ _ _ _ _ _ _ _ _ _ _ _ | exact ih1 _ _ _ _ _ _ _ _ _ | exact ih2 _ _ _ _ | exact impl_Add.mono _ _ _ _ | exact laws_eqTable.mono _ _ _ _ _ | exact laws_heldTable.mono _ _ _ _ | exact laws_markTable.mono _ _ _ _ | exact laws_szTable.mono _ _ _ _ | exact laws_toTable.mono _ _ _ | exact spec_Add.mono _ _ _ _ | exact LeO.none _ | refine LeO.ite ?_ ?_ | refine LeO.bind ?_ (fun _ => ?_)
  ·intro y0 y1 y2 y3
   unfold laws_FnExactAdd.j2
   repeat' first | (with_reducible first | exact ih0 _ _ _ _ _ _ _ _ _ _ _ _ | exact ih1 _ _ _ _ _ _ _ _ _ | exact ih2 _ _ _ _ | exact impl_Add.mono _ _ _ _ | exact laws_eqTable.mono _ _ _ _ _ | exact laws_heldTable.mono _ _ _ _ | exact laws_markTable.mono _ _ _ _ | exact laws_szTable.mono _ _ _ _ | exact laws_toTable.mono _ _ _ | exact spec_Add.mono _ _ _ _ | exact LeO.refl _ | exact LeO.none _ | refine LeO.ite ?_ ?_ | refine LeO.bind ?_ (fun _ => ?_)) | exact ih0 _ _ _ _ _ _ _ _ _ _ _ _ | exact ih1 _ _ _ _ _ _ _ _ _ | exact ih2 _ _ _ _ | exact impl_Add.mono _ _ _ _ | exact laws_eqTable.mono _ _ _ _ _ | exact laws_heldTable.mono _ _ _ _ | exact laws_markTable.mono _ _ _ _ | exact laws_szTable.mono _ _ _ _ | exact laws_toTable.mono _ _ _ | exact spec_Add.mono _ _ _ _ | exact LeO.none _ | refine LeO.ite ?_ ?_ | refine LeO.bind ?_ (fun _ => ?_)
theorem laws_FnExactAdd.mono : ∀ a0 a1 a2 k, LeO (laws_FnExactAdd.f k a0 a1 a2) (laws_FnExactAdd.f (k + 1) a0 a1 a2) := by
 intro a0 a1 a2 k
 obtain ⟨ih0, ih1, ih2⟩ := laws_FnExactAdd.mono_l k
 unfold laws_FnExactAdd.f
 repeat' first | (with_reducible first | exact ih0 _ _ _ _ _ _ _ _ _ _ _ _ | exact ih1 _ _ _ _ _ _ _ _ _ | exact ih2 _ _ _ _ | exact impl_Add.mono _ _ _ _ | exact laws_eqTable.mono _ _ _ _ _ | exact laws_heldTable.mono _ _ _ _ | exact laws_markTable.mono _ _ _ _ | exact laws_szTable.mono _ _ _ _ | exact laws_toTable.mono _ _ _ | exact spec_Add.mono _ _ _ _ | exact LeO.refl _ | exact LeO.none _ | refine LeO.ite ?_ ?_ | refine LeO.bind ?_ (fun _ => ?_)) | exact ih0 _ _ _ _ _ _ _ _ _ _ _ _ | exact ih1 _ _ _ _ _ _ _ _ _ | exact ih2 _ _ _ _ | exact impl_Add.mono _ _ _ _ | exact laws_eqTable.mono _ _ _ _ _ | exact laws_heldTable.mono _ _ _ _ | exact laws_markTable.mono _ _ _ _ | exact laws_szTable.mono _ _ _ _ | exact laws_toTable.mono _ _ _ | exact spec_Add.mono _ _ _ _ | exact LeO.none _ | refine LeO.ite ?_ ?_ | refine LeO.bind ?_ (fun _ => ?_)
set_option maxHeartbeats 8000000 in
set_option maxRecDepth 100000 in
theorem laws_FnExactAdd.calls (k : Nat) (a0_0 : Int) (A0_1 : Option Addr) (c0_1 : Nat) (l0_1 : List (S78)) (a1 : ByteArray) (r : Bool) (w : World) (hr0_1 : Kd.C k78 w A0_1 l0_1.length l0_1) (hc0_1 : l0_1.length ≤ c0_1) (h : laws_FnExactAdd.f k a0_0 l0_1 a1 = some r) :
  Calls Try.prog 10 #[.agg #[.int .i64 a0_0, .slice A0_1 l0_1.length c0_1], .string a1] w fun e w' => e = .returned (.bool r) ∧ Below w.heap.size w w' := by
 have hu24 := Try.underlying24
 have hu29 := Try.underlying29
 have HR0_1 := Aside0.mk hr0_1
 have HC0_1 := Aside0.mk hc0_1
 clear hr0_1 hc0_1
 have HB := Aside0.mk (Below.refl w.heap.size w)
 have H : (if (a1.size : Int) > 1048576 then (some true) else ((laws_szTable.f k a0_0 l0_1 1048576).bind fun t794 => (if t794 < 0 then (some true) else ((laws_toTable.f k a0_0 l0_1).bind fun bt795 => ((spec_Add.f k bt795.1 bt795.2 a1).bind fun bt799 => ((laws_toTable.f k a0_0 l0_1).bind fun bt805 => ((impl_Add.f k bt805.1 bt805.2 a1).bind fun bt810 => ((laws_eqTable.f k bt810.1 bt810.2.1 bt799.1 bt799.2.1).bind fun t816 => (if t816 = true then (laws_FnExactAdd.j0 k a1 bt799.2.2 bt810.2.2 (bt810.2.2 != bt799.2.2) a0_0 l0_1 bt799.1 bt799.2.1 bt805.1 bt805.2 bt810.1 bt810.2.1) else (laws_FnExactAdd.j0 k a1 bt799.2.2 bt810.2.2 true a0_0 l0_1 bt799.1 bt799.2.1 bt805.1 bt805.2 bt810.1 bt810.2.1)))))))))) = some r := h
 clear h
 by_cases c3 : (a1.size : Int) > 1048576
 ·rw [if_pos c3] at H
  have c3b0 : decide (1048576 < (a1.size : Int)) = true := decide_eq_true c3
  have c3b1 : decide (1048576 < a1.size) = true := decide_eq_true (by omega)
  clear c3
  obtain rfl := Option.some.inj H
  go_enter Try.func10, Try.ntmps10
  go_wp2_with (first | ((with_reducible refine gate_dst (N := 2) rfl ?_); refine box_event ?hg (N := 2) ?hd (cs := #[.int .i64 a0_0, .slice A0_1 l0_1.length c0_1]) (t := 24) ?hr ?_; (case hd => rfl); (case hg => rfl); (case hr => first | (go_simp; done) | (go_simp; rfl)); intro gb793 hg w4 hbox hb; have n0_ := Aside0.mk (below_step BL hb); have n1_ := Aside0.mk (hbox); have n2_ := Aside0.mk ((by rw [hg]; exact (below_size BL) : w.heap.size ≤ gb793)); have n3_ := Aside0.mk ((by rw [hg]; exact (below_size BL) : w.heap.size ≤ gb793)); clear HB; have HB := n0_; have BK793 := n1_; have GW793 := n2_; have GE793 := n3_; clear n0_ n1_ n2_ n3_; clear hb hbox hg))
  go_ret
  exact ⟨by first | rfl | (simp [errW_none, errW_some] <;> rfl) | (simp [*, errW_none, errW_some] <;> rfl), BG⟩
 ·rw [if_neg c3] at H
  have c3b0 : decide (1048576 < (a1.size : Int)) = false := decide_eq_false c3
  have c3b1 : decide (1048576 < a1.size) = false := decide_eq_false (by omega)
  clear c3
  replace H := BS H
  obtain ⟨t794, A50, H⟩ := H
  have A5 := Aside0.mk A50
  clear A50
  by_cases c6 : t794 < 0
  ·rw [if_pos c6] at H
   have c6b0 : decide (t794 < 0) = true := decide_eq_true c6
   clear c6
   obtain rfl := Option.some.inj H
   go_enter Try.func10, Try.ntmps10
   go_wp2_with (first | ((with_reducible refine gate_dst (N := 2) rfl ?_); refine box_event ?hg (N := 2) ?hd (cs := #[.int .i64 a0_0, .slice A0_1 l0_1.length c0_1]) (t := 24) ?hr ?_; (case hd => rfl); (case hg => rfl); (case hr => first | (go_simp; done) | (go_simp; rfl)); intro gb793 hg w7 hbox hb; have n0_ := Aside0.mk (below_step BL hb); have n1_ := Aside0.mk (hbox); have n2_ := Aside0.mk ((by rw [hg]; exact (below_size BL) : w.heap.size ≤ gb793)); have n3_ := Aside0.mk ((by rw [hg]; exact (below_size BL) : w.heap.size ≤ gb793)); clear HB; have HB := n0_; have BK793 := n1_; have GW793 := n2_; have GE793 := n3_; clear n0_ n1_ n2_ n3_; clear hb hbox hg; obtain ⟨hcz8_0, hcz8_1, hfz8_0, hfz8_1⟩ := bk2 BK793.out) | ((with_reducible refine gate_callee (f := 11) rfl ?_); refine goesL_ (some 21) rfl rfl Try.func11 (by kernel_rfl) rfl #[.agg #[.int .i64 a0_0, .slice A0_1 l0_1.length c0_1], .int .i64 1048576] rfl AQ ?_; (with_reducible refine (laws_szTable.calls k a0_0 _ _ l0_1 1048576 t794 _ ?side1 ?side2 A5.out).mono ?_); (case side1 => exact SC HR0_1); (case side2 => exact HC0_1.out); rintro e w9 ⟨rfl, hb⟩; refine ⟨_, rfl, ?_⟩; have n0_ := Aside0.mk (blk_below (BD BK793) hb); have n1_ := Aside0.mk (below_step BG hb); clear BK793; clear HB; have BK793 := n0_; have HB := n1_; clear n0_ n1_; (try clear hb); (try clear hb2); (try clear hk); (try clear hi)))
   go_ret
   exact ⟨by first | rfl | (simp [errW_none, errW_some] <;> rfl) | (simp [*, errW_none, errW_some] <;> rfl), BG⟩
  ·rw [if_neg c6] at H
   have c6b0 : decide (t794 < 0) = false := decide_eq_false c6
   clear c6
   replace H := BS H
   obtain ⟨⟨t795, t796⟩, A100, H⟩ := H
   have A10 := Aside0.mk A100
   clear A100
   replace H := BS H
   obtain ⟨⟨t799, t800, t803⟩, A110, H⟩ := H
   have A11 := Aside0.mk A110
   clear A110
   replace H := BS H
   obtain ⟨⟨t805, t806⟩, A120, H⟩ := H
   have A12 := Aside0.mk A120
   clear A120
   replace H := BS H
   obtain ⟨⟨t810, t811, t814⟩, A130, H⟩ := H
   have A13 := Aside0.mk A130
   clear A130
   have HC14 := Aside0.mk H
   clear H
   go_enter Try.func10, Try.ntmps10
   go_upto_region 10 with (first | ((with_reducible refine gate_dst (N := 2) rfl ?_); refine box_event ?hg (N := 2) ?hd (cs := #[.int .i64 a0_0, .slice A0_1 l0_1.length c0_1]) (t := 24) ?hr ?_; (case hd => rfl); (case hg => rfl); (case hr => first | (go_simp; done) | (go_simp; rfl)); intro gb793 hg w15 hbox hb; have n0_ := Aside0.mk (below_step BL hb); have n1_ := Aside0.mk (hbox); have n2_ := Aside0.mk ((by rw [hg]; exact (below_size BL) : w.heap.size ≤ gb793)); have n3_ := Aside0.mk ((by rw [hg]; exact (below_size BL) : w.heap.size ≤ gb793)); clear HB; have HB := n0_; have BK793 := n1_; have GW793 := n2_; have GE793 := n3_; clear n0_ n1_ n2_ n3_; clear hb hbox hg; obtain ⟨hcz16_0, hcz16_1, hfz16_0, hfz16_1⟩ := bk2 BK793.out) | ((with_reducible refine gate_callee (f := 11) rfl ?_); refine goesL_ (some 21) rfl rfl Try.func11 (by kernel_rfl) rfl #[.agg #[.int .i64 a0_0, .slice A0_1 l0_1.length c0_1], .int .i64 1048576] rfl AQ ?_; (with_reducible refine (laws_szTable.calls k a0_0 _ _ l0_1 1048576 t794 _ ?side1 ?side2 A5.out).mono ?_); (case side1 => exact SC HR0_1); (case side2 => exact HC0_1.out); rintro e w17 ⟨rfl, hb⟩; refine ⟨_, rfl, ?_⟩; have n0_ := Aside0.mk (blk_below (BD BK793) hb); have n1_ := Aside0.mk (below_step BG hb); clear BK793; clear HB; have BK793 := n0_; have HB := n1_; clear n0_ n1_; (try clear hb); (try clear hb2); (try clear hk); (try clear hi); obtain ⟨hcz18_0, hcz18_1, hfz18_0, hfz18_1⟩ := bk2 BK793.out) | ((with_reducible refine gate_callee (f := 13) rfl ?_); refine goesL_ (some 26) rfl rfl Try.func13 (by kernel_rfl) rfl #[.agg #[.int .i64 a0_0, .slice A0_1 l0_1.length c0_1]] rfl AQ ?_; (with_reducible refine (laws_toTable.calls k a0_0 _ _ l0_1 t795 t796 _ ?side1 ?side2 A10.out).mono ?_); (case side1 => exact SC HR0_1); (case side2 => exact HC0_1.out); rintro e w19 ⟨v797, rfl, ho0, hb⟩; refine ⟨_, rfl, ?_⟩; have n0_ := Aside0.mk (Kd.R_lower ho0 (below_size BG)); have n1_ := Aside0.mk (blk_below (BD BK793) hb); have n2_ := Aside0.mk (below_step BG hb); clear BK793; clear HB; have HO798 := n0_; have BK793 := n1_; have HB := n2_; clear n0_ n1_ n2_; (try clear hb); (try clear hb2); (try clear hk); (try clear hi); (try clear ho0); obtain ⟨Ao20, co20, eo20⟩ := Kd.R_slice HO798.out; subst eo20) | ((with_reducible refine gate_callee (f := 33) rfl ?_); refine goesL_ (some 28) rfl rfl Try.func33 (by kernel_rfl) rfl #[.agg #[.int .i64 t795, .slice Ao20 t796.length co20], .string a1] rfl AQ ?_; (with_reducible refine (spec_Add.calls k t795 _ _ t796 a1 t799 t800 t803 _ ?side1 ?side2 A11.out).mono ?_); (case side1 => exact SR HO798); (case side2 => exact (Kd.R_reads' HO798.out).2.1); rintro e w21 ⟨v801, rfl, ho0, hb⟩; refine ⟨_, rfl, ?_⟩; have n0_ := Aside0.mk (Kd.R_elder' (RD HO798) (Kd.R_base ho0) hb); have n1_ := Aside0.mk (Kd.R_lower (Kd.R_new' ho0 (Kd.R_lt (RD HO798))) (below_size BG)); have n2_ := Aside0.mk (blk_below (BD BK793) hb); have n3_ := Aside0.mk (below_step BG hb); clear HO798; clear BK793; clear HB; have HO798 := n0_; have HO802 := n1_; have BK793 := n2_; have HB := n3_; clear n0_ n1_ n2_ n3_; (try clear hb); (try clear hb2); (try clear hk); (try clear hi); (try clear ho0)) | ((with_reducible refine gate_dst (N := 6) rfl ?_); refine box_event ?hg (N := 6) ?hd (cs := #[.int .i64 0, .slice none 0 0]) (t := 29) ?hr ?_; (case hd => rfl); (case hg => rfl); (case hr => first | (go_simp; done) | (go_simp; rfl)); intro gb804 hg w22 hbox hb; have n0_ := Aside0.mk (Kd.R_below (RD HO798) hb); have n1_ := Aside0.mk (Kd.R_below (RD HO802) hb); have n2_ := Aside0.mk (blk_below (BD BK793) hb); have n3_ := Aside0.mk (below_step BG hb); have n4_ := Aside0.mk (hbox); have n5_ := Aside0.mk ((by rw [hg]; exact (below_size BG) : w.heap.size ≤ gb804)); have n6_ := Aside0.mk ((by rw [hg]; exact (below_size BG) : w.heap.size ≤ gb804)); have n7_ := Aside0.mk ((by rw [hg]; exact Nat.ne_of_lt (blk_lt (BD BK793)) : gb793 ≠ gb804)); have n8_ := Aside0.mk ((by rw [hg]; exact Nat.ne_of_gt (blk_lt (BD BK793)) : gb804 ≠ gb793)); clear HO798; clear HO802; clear BK793; clear HB; have HO798 := n0_; have HO802 := n1_; have BK793 := n2_; have HB := n3_; have BK804 := n4_; have GW804 := n5_; have GE804 := n6_; have NB793_804 := n7_; have NB804_793 := n8_; clear n0_ n1_ n2_ n3_ n4_ n5_ n6_ n7_ n8_; clear hb hbox hg; have hnb23 := NB804_793.out; have hnc23 := NB793_804.out; obtain ⟨hcz24_0, hcz24_1, hfz24_0, hfz24_1⟩ := bk2 BK804.out; obtain ⟨Ao25, co25, eo25⟩ := Kd.R_slice HO802.out; subst eo25; obtain ⟨hcz26_0, hcz26_1, hfz26_0, hfz26_1⟩ := bk2 BK793.out) | ((with_reducible refine gate_callee (f := 13) rfl ?_); refine goesL_ (some 32) rfl rfl Try.func13 (by kernel_rfl) rfl #[.agg #[.int .i64 a0_0, .slice A0_1 l0_1.length c0_1]] rfl AQ ?_; (with_reducible refine (laws_toTable.calls k a0_0 _ _ l0_1 t805 t806 _ ?side1 ?side2 A12.out).mono ?_); (case side1 => exact Kd.C_below HR0_1.out BG); (case side2 => exact HC0_1.out); rintro e w27 ⟨v807, rfl, ho0, hb⟩; refine ⟨_, rfl, ?_⟩; have n0_ := Aside0.mk (Kd.R_elder' (by (with_reducible repeat (first | apply Kd.R_alloc | apply Kd.R_drewN | apply Kd.R_drew)); exact (FM (FR (FR (Kd.R_types HO798.out BK804.out (by decide)))))) (Kd.R_base ho0) hb); have n1_ := Aside0.mk (Kd.R_elder' (by (with_reducible repeat (first | apply Kd.R_alloc | apply Kd.R_drewN | apply Kd.R_drew)); exact (FM (FR (FR (Kd.R_types HO802.out BK804.out (by decide)))))) (Kd.R_base ho0) hb); have n2_ := Aside0.mk (Kd.R_lower (Kd.R_new' (Kd.R_new' ho0 (Kd.R_lt (by (with_reducible repeat (first | apply Kd.R_alloc | apply Kd.R_drewN | apply Kd.R_drew)); exact (FM (FR (FR (Kd.R_types HO798.out BK804.out (by decide)))))))) (Kd.R_lt (by (with_reducible repeat (first | apply Kd.R_alloc | apply Kd.R_drewN | apply Kd.R_drew)); exact (FM (FR (FR (Kd.R_types HO802.out BK804.out (by decide)))))))) (below_size BG)); have n3_ := Aside0.mk (blk_below (g := gb793) (o := .cells #[.int .i64 a0_0, .slice A0_1 l0_1.length c0_1] 24 (0, 0)) (by (with_reducible repeat (first | refine blk_drewN ?_ _ | refine blk_drew ?_ | refine blk_alloc ?_ _)); refine blk_far ?_ NB793_804.out _; (with_reducible repeat (first | refine blk_drewN ?_ _ | refine blk_drew ?_ | refine blk_alloc ?_ _)); refine blk_far ?_ NB793_804.out _; (with_reducible repeat (first | refine blk_drewN ?_ _ | refine blk_drew ?_ | refine blk_alloc ?_ _)); exact BK793.out) hb); have n4_ := Aside0.mk (blk_below (g := gb804) (o := .cells #[.int .i64 t799, .slice Ao25 t800.length co25] 29 (0, 0)) (by (with_reducible repeat (first | refine blk_drewN ?_ _ | refine blk_drew ?_ | refine blk_alloc ?_ _)); refine blk_put (cs := #[.int .i64 t799, .slice none 0 0]) ?_ 1 _ rfl; (with_reducible repeat (first | refine blk_drewN ?_ _ | refine blk_drew ?_ | refine blk_alloc ?_ _)); refine blk_put (cs := #[.int .i64 0, .slice none 0 0]) ?_ 0 _ rfl; (with_reducible repeat (first | refine blk_drewN ?_ _ | refine blk_drew ?_ | refine blk_alloc ?_ _)); exact BK804.out) hb); have n5_ := Aside0.mk (below_step BG hb); clear HO798; clear HO802; clear BK793; clear BK804; clear HB; have HO798 := n0_; have HO802 := n1_; have HO808 := n2_; have BK793 := n3_; have BK804 := n4_; have HB := n5_; clear n0_ n1_ n2_ n3_ n4_ n5_; (try clear hb); (try clear hb2); (try clear hk); (try clear hi); (try clear ho0)) | ((with_reducible refine gate_dst (N := 8) rfl ?_); refine box_event ?hg (N := 8) ?hd (cs := #[.int .i64 0, .slice none 0 0]) (t := 29) ?hr ?_; (case hd => rfl); (case hg => rfl); (case hr => first | (go_simp; done) | (go_simp; rfl)); intro gb809 hg w28 hbox hb; have n0_ := Aside0.mk (Kd.R_below (RD HO798) hb); have n1_ := Aside0.mk (Kd.R_below (RD HO802) hb); have n2_ := Aside0.mk (Kd.R_below (RD HO808) hb); have n3_ := Aside0.mk (blk_below (BD BK793) hb); have n4_ := Aside0.mk (blk_below (BD BK804) hb); have n5_ := Aside0.mk (below_step BG hb); have n6_ := Aside0.mk (hbox); have n7_ := Aside0.mk ((by rw [hg]; exact (below_size BG) : w.heap.size ≤ gb809)); have n8_ := Aside0.mk ((by rw [hg]; exact (below_size BG) : w.heap.size ≤ gb809)); have n9_ := Aside0.mk ((by rw [hg]; exact Nat.ne_of_lt (blk_lt (BD BK793)) : gb793 ≠ gb809)); have n10_ := Aside0.mk ((by rw [hg]; exact Nat.ne_of_gt (blk_lt (BD BK793)) : gb809 ≠ gb793)); have n11_ := Aside0.mk ((by rw [hg]; exact Nat.ne_of_lt (blk_lt (BD BK804)) : gb804 ≠ gb809)); have n12_ := Aside0.mk ((by rw [hg]; exact Nat.ne_of_gt (blk_lt (BD BK804)) : gb809 ≠ gb804)); clear HO798; clear HO802; clear HO808; clear BK793; clear BK804; clear HB; have HO798 := n0_; have HO802 := n1_; have HO808 := n2_; have BK793 := n3_; have BK804 := n4_; have HB := n5_; have BK809 := n6_; have GW809 := n7_; have GE809 := n8_; have NB793_809 := n9_; have NB809_793 := n10_; have NB804_809 := n11_; have NB809_804 := n12_; clear n0_ n1_ n2_ n3_ n4_ n5_ n6_ n7_ n8_ n9_ n10_ n11_ n12_; clear hb hbox hg; have hnb29 := NB809_793.out; have hnc29 := NB793_809.out; have hnb30 := NB809_804.out; have hnc30 := NB804_809.out; obtain ⟨hcz31_0, hcz31_1, hfz31_0, hfz31_1⟩ := bk2 BK809.out; obtain ⟨Ao32, co32, eo32⟩ := Kd.R_slice HO808.out; subst eo32) | ((with_reducible refine gate_callee (f := 34) rfl ?_); refine goesL_ (some 36) rfl rfl Try.func34 (by kernel_rfl) rfl #[.agg #[.int .i64 t805, .slice Ao32 t806.length co32], .string a1] rfl AQ ?_; (with_reducible refine (impl_Add.calls k t805 _ _ t806 a1 t810 t811 t814 _ ?side1 ?side2 A13.out).mono ?_); (case side1 => refine (Kd.R_reads' (e := 50) (base := w.heap.size) (ok := fun k_ => ((True ∧ some k_ ≠ (.slice Ao20 t796.length co20 : Value).ownBlock) ∧ some k_ ≠ (.slice Ao25 t800.length co25 : Value).ownBlock)) (n := t806.length) (c := co32) ?_).2.2; exact (by (with_reducible repeat (first | apply Kd.R_alloc | apply Kd.R_drewN | apply Kd.R_drew)); exact (FM (FR (FR (Kd.R_types HO808.out BK809.out (by decide))))))); (case side2 => exact (Kd.R_reads' HO808.out).2.1); rintro e w33 ⟨v812, rfl, ho0, hb⟩; refine ⟨_, rfl, ?_⟩; have n0_ := Aside0.mk (Kd.R_elder' (by (with_reducible repeat (first | apply Kd.R_alloc | apply Kd.R_drewN | apply Kd.R_drew)); exact (FM (FR (FR (Kd.R_types HO798.out BK809.out (by decide)))))) (Kd.R_base ho0) hb); have n1_ := Aside0.mk (Kd.R_elder' (by (with_reducible repeat (first | apply Kd.R_alloc | apply Kd.R_drewN | apply Kd.R_drew)); exact (FM (FR (FR (Kd.R_types HO802.out BK809.out (by decide)))))) (Kd.R_base ho0) hb); have n2_ := Aside0.mk (Kd.R_elder' (by (with_reducible repeat (first | apply Kd.R_alloc | apply Kd.R_drewN | apply Kd.R_drew)); exact (FM (FR (FR (Kd.R_types HO808.out BK809.out (by decide)))))) (Kd.R_base ho0) hb); have n3_ := Aside0.mk (Kd.R_lower (Kd.R_new' (Kd.R_new' (Kd.R_new' ho0 (Kd.R_lt (by (with_reducible repeat (first | apply Kd.R_alloc | apply Kd.R_drewN | apply Kd.R_drew)); exact (FM (FR (FR (Kd.R_types HO798.out BK809.out (by decide)))))))) (Kd.R_lt (by (with_reducible repeat (first | apply Kd.R_alloc | apply Kd.R_drewN | apply Kd.R_drew)); exact (FM (FR (FR (Kd.R_types HO802.out BK809.out (by decide)))))))) (Kd.R_lt (by (with_reducible repeat (first | apply Kd.R_alloc | apply Kd.R_drewN | apply Kd.R_drew)); exact (FM (FR (FR (Kd.R_types HO808.out BK809.out (by decide)))))))) (below_size BG)); have n4_ := Aside0.mk (blk_below (g := gb793) (o := .cells #[.int .i64 a0_0, .slice A0_1 l0_1.length c0_1] 24 (0, 0)) (by (with_reducible repeat (first | refine blk_drewN ?_ _ | refine blk_drew ?_ | refine blk_alloc ?_ _)); refine blk_far ?_ NB793_809.out _; (with_reducible repeat (first | refine blk_drewN ?_ _ | refine blk_drew ?_ | refine blk_alloc ?_ _)); refine blk_far ?_ NB793_809.out _; (with_reducible repeat (first | refine blk_drewN ?_ _ | refine blk_drew ?_ | refine blk_alloc ?_ _)); exact BK793.out) hb); have n5_ := Aside0.mk (blk_below (g := gb804) (o := .cells #[.int .i64 t799, .slice Ao25 t800.length co25] 29 (0, 0)) (by (with_reducible repeat (first | refine blk_drewN ?_ _ | refine blk_drew ?_ | refine blk_alloc ?_ _)); refine blk_far ?_ NB804_809.out _; (with_reducible repeat (first | refine blk_drewN ?_ _ | refine blk_drew ?_ | refine blk_alloc ?_ _)); refine blk_far ?_ NB804_809.out _; (with_reducible repeat (first | refine blk_drewN ?_ _ | refine blk_drew ?_ | refine blk_alloc ?_ _)); exact BK804.out) hb); have n6_ := Aside0.mk (blk_below (g := gb809) (o := .cells #[.int .i64 t805, .slice Ao32 t806.length co32] 29 (0, 0)) (by (with_reducible repeat (first | refine blk_drewN ?_ _ | refine blk_drew ?_ | refine blk_alloc ?_ _)); refine blk_put (cs := #[.int .i64 t805, .slice none 0 0]) ?_ 1 _ rfl; (with_reducible repeat (first | refine blk_drewN ?_ _ | refine blk_drew ?_ | refine blk_alloc ?_ _)); refine blk_put (cs := #[.int .i64 0, .slice none 0 0]) ?_ 0 _ rfl; (with_reducible repeat (first | refine blk_drewN ?_ _ | refine blk_drew ?_ | refine blk_alloc ?_ _)); exact BK809.out) hb); have n7_ := Aside0.mk (below_step BG hb); clear HO798; clear HO802; clear HO808; clear BK793; clear BK804; clear BK809; clear HB; have HO798 := n0_; have HO802 := n1_; have HO808 := n2_; have HO813 := n3_; have BK793 := n4_; have BK804 := n5_; have BK809 := n6_; have HB := n7_; clear n0_ n1_ n2_ n3_ n4_ n5_ n6_ n7_; (try clear hb); (try clear hb2); (try clear hk); (try clear hi); (try clear ho0)) | ((with_reducible refine gate_dst (N := 9) rfl ?_); refine box_event ?hg (N := 9) ?hd (cs := #[.int .i64 0, .slice none 0 0]) (t := 29) ?hr ?_; (case hd => rfl); (case hg => rfl); (case hr => first | (go_simp; done) | (go_simp; rfl)); intro gb815 hg w34 hbox hb; have n0_ := Aside0.mk (Kd.R_below (RD HO798) hb); have n1_ := Aside0.mk (Kd.R_below (RD HO802) hb); have n2_ := Aside0.mk (Kd.R_below (RD HO808) hb); have n3_ := Aside0.mk (Kd.R_below (RD HO813) hb); have n4_ := Aside0.mk (blk_below (BD BK793) hb); have n5_ := Aside0.mk (blk_below (BD BK804) hb); have n6_ := Aside0.mk (blk_below (BD BK809) hb); have n7_ := Aside0.mk (below_step BG hb); have n8_ := Aside0.mk (hbox); have n9_ := Aside0.mk ((by rw [hg]; exact (below_size BG) : w.heap.size ≤ gb815)); have n10_ := Aside0.mk ((by rw [hg]; exact (below_size BG) : w.heap.size ≤ gb815)); have n11_ := Aside0.mk ((by rw [hg]; exact Nat.ne_of_lt (blk_lt (BD BK793)) : gb793 ≠ gb815)); have n12_ := Aside0.mk ((by rw [hg]; exact Nat.ne_of_gt (blk_lt (BD BK793)) : gb815 ≠ gb793)); have n13_ := Aside0.mk ((by rw [hg]; exact Nat.ne_of_lt (blk_lt (BD BK804)) : gb804 ≠ gb815)); have n14_ := Aside0.mk ((by rw [hg]; exact Nat.ne_of_gt (blk_lt (BD BK804)) : gb815 ≠ gb804)); have n15_ := Aside0.mk ((by rw [hg]; exact Nat.ne_of_lt (blk_lt (BD BK809)) : gb809 ≠ gb815)); have n16_ := Aside0.mk ((by rw [hg]; exact Nat.ne_of_gt (blk_lt (BD BK809)) : gb815 ≠ gb809)); clear HO798; clear HO802; clear HO808; clear HO813; clear BK793; clear BK804; clear BK809; clear HB; have HO798 := n0_; have HO802 := n1_; have HO808 := n2_; have HO813 := n3_; have BK793 := n4_; have BK804 := n5_; have BK809 := n6_; have HB := n7_; have BK815 := n8_; have GW815 := n9_; have GE815 := n10_; have NB793_815 := n11_; have NB815_793 := n12_; have NB804_815 := n13_; have NB815_804 := n14_; have NB809_815 := n15_; have NB815_809 := n16_; clear n0_ n1_ n2_ n3_ n4_ n5_ n6_ n7_ n8_ n9_ n10_ n11_ n12_ n13_ n14_ n15_ n16_; clear hb hbox hg; have hnb35 := NB815_793.out; have hnc35 := NB793_815.out; have hnb36 := NB815_804.out; have hnc36 := NB804_815.out; have hnb37 := NB815_809.out; have hnc37 := NB809_815.out; obtain ⟨hcz38_0, hcz38_1, hfz38_0, hfz38_1⟩ := bk2 BK815.out; obtain ⟨Ao39, co39, eo39⟩ := Kd.R_slice HO813.out; subst eo39))
   (try simp only [Act.put, List.setIfInBounds_toArray, List.set_cons_zero, List.set_cons_succ])
   go_cut [47] (fun v47 wc => ∃ (kq : Nat) (x47_13 : Bool), v47 = .bool x47_13 ∧ Aside0 (laws_FnExactAdd.j0 kq a1 t803 t814 x47_13 a0_0 l0_1 t799 t800 t805 t806 t810 t811 = some r) ∧ Aside0 (kq ≤ k) ∧ Aside0 (Kd.R k50 50 wc w.heap.size (fun k_ => some k_ ≠ ((.slice Ao32 t806.length co32) : Value).ownBlock ∧ some k_ ≠ ((.slice Ao39 t811.length co39) : Value).ownBlock) (.slice Ao25 t800.length co25) t800) ∧ Aside0 (Kd.R k50 50 wc w.heap.size (fun k_ => some k_ ≠ ((.slice Ao25 t800.length co25) : Value).ownBlock ∧ some k_ ≠ ((.slice Ao39 t811.length co39) : Value).ownBlock) (.slice Ao32 t806.length co32) t806) ∧ Aside0 (Kd.R k50 50 wc w.heap.size (fun k_ => some k_ ≠ ((.slice Ao25 t800.length co25) : Value).ownBlock ∧ some k_ ≠ ((.slice Ao32 t806.length co32) : Value).ownBlock) (.slice Ao39 t811.length co39) t811) ∧ Aside0 (wc.heap[gb793]? = some (.cells #[.int .i64 a0_0, (.slice A0_1 l0_1.length c0_1)] 24 (0, 0))) ∧ Aside0 (wc.heap[gb804]? = some (.cells #[.int .i64 t799, (.slice Ao25 t800.length co25)] 29 (0, 0))) ∧ Aside0 (wc.heap[gb809]? = some (.cells #[.int .i64 t805, (.slice Ao32 t806.length co32)] 29 (0, 0))) ∧ Aside0 (wc.heap[gb815]? = some (.cells #[.int .i64 t810, (.slice Ao39 t811.length co39)] 29 (0, 0))) ∧ Aside0 (Below w.heap.size w wc))
   case first =>
    have H := HC14.out
    clear HC14
    replace H := BS H
    obtain ⟨t816, A400, H⟩ := H
    have A40 := Aside0.mk A400
    clear A400
    by_cases c41 : t816 = true
    ·subst c41
     replace H := IP H
     have H' := Aside0.mk H
     clear H
     have hnb42 := NB815_793.out
     have hnc42 := NB793_815.out
     have hnb43 := NB815_804.out
     have hnc43 := NB804_815.out
     have hnb44 := NB815_809.out
     have hnc44 := NB809_815.out
     obtain ⟨hcz45_0, hcz45_1, hfz45_0, hfz45_1⟩ := bk2 BK815.out
     have hnb46 := NB804_793.out
     have hnc46 := NB793_804.out
     have hnb47 := NB804_809.out
     have hnc47 := NB809_804.out
     obtain ⟨hcz48_0, hcz48_1, hfz48_0, hfz48_1⟩ := bk2 BK804.out
     go_wp2_with (first | ((with_reducible refine gate_callee (f := 15) rfl ?_); refine goesL_ (some 41) rfl rfl Try.func15 (by kernel_rfl) rfl #[.agg #[.int .i64 t810, .slice Ao39 t811.length co39], .agg #[.int .i64 t799, .slice Ao25 t800.length co25]] rfl AQ ?_; (with_reducible refine (laws_eqTable.calls k t810 _ _ t811 t799 _ _ t800 true _ ?side1 ?side2 ?side3 ?side4 A40.out).mono ?_); (case side1 => refine (Kd.R_reads' (e := 50) (base := w.heap.size) (ok := fun k_ => (((True ∧ some k_ ≠ (.slice Ao20 t796.length co20 : Value).ownBlock) ∧ some k_ ≠ (.slice Ao25 t800.length co25 : Value).ownBlock) ∧ some k_ ≠ (.slice Ao32 t806.length co32 : Value).ownBlock)) (n := t811.length) (c := co39) ?_).2.2; exact (by (with_reducible repeat (first | apply Kd.R_alloc | apply Kd.R_drewN | apply Kd.R_drew)); exact (FM (FR (FR (Kd.R_types HO813.out BK815.out (by decide))))))); (case side2 => exact (Kd.R_reads' HO813.out).2.1); (case side3 => refine (Kd.R_reads' (e := 50) (base := w.heap.size) (ok := fun k_ => (((True ∧ some k_ ≠ (.slice Ao20 t796.length co20 : Value).ownBlock) ∧ some k_ ≠ (.slice Ao32 t806.length co32 : Value).ownBlock) ∧ some k_ ≠ (.slice Ao39 t811.length co39 : Value).ownBlock)) (n := t800.length) (c := co25) ?_).2.2; exact (by (with_reducible repeat (first | apply Kd.R_alloc | apply Kd.R_drewN | apply Kd.R_drew)); exact (FM (FR (FR (Kd.R_types HO802.out BK815.out (by decide))))))); (case side4 => exact (Kd.R_reads' HO802.out).2.1); rintro e w49 ⟨rfl, hb⟩; refine ⟨_, rfl, ?_⟩; have n0_ := Aside0.mk (Kd.R_below (by (with_reducible repeat (first | apply Kd.R_alloc | apply Kd.R_drewN | apply Kd.R_drew)); exact (FM (FR (FR (Kd.R_types HO798.out BK815.out (by decide)))))) hb); have n1_ := Aside0.mk (Kd.R_below (by (with_reducible repeat (first | apply Kd.R_alloc | apply Kd.R_drewN | apply Kd.R_drew)); exact (FM (FR (FR (Kd.R_types HO802.out BK815.out (by decide)))))) hb); have n2_ := Aside0.mk (Kd.R_below (by (with_reducible repeat (first | apply Kd.R_alloc | apply Kd.R_drewN | apply Kd.R_drew)); exact (FM (FR (FR (Kd.R_types HO808.out BK815.out (by decide)))))) hb); have n3_ := Aside0.mk (Kd.R_below (by (with_reducible repeat (first | apply Kd.R_alloc | apply Kd.R_drewN | apply Kd.R_drew)); exact (FM (FR (FR (Kd.R_types HO813.out BK815.out (by decide)))))) hb); have n4_ := Aside0.mk (blk_below (g := gb793) (o := .cells #[.int .i64 a0_0, .slice A0_1 l0_1.length c0_1] 24 (0, 0)) (by (with_reducible repeat (first | refine blk_drewN ?_ _ | refine blk_drew ?_ | refine blk_alloc ?_ _)); refine blk_far ?_ NB793_815.out _; (with_reducible repeat (first | refine blk_drewN ?_ _ | refine blk_drew ?_ | refine blk_alloc ?_ _)); refine blk_far ?_ NB793_815.out _; (with_reducible repeat (first | refine blk_drewN ?_ _ | refine blk_drew ?_ | refine blk_alloc ?_ _)); exact BK793.out) hb); have n5_ := Aside0.mk (blk_below (g := gb804) (o := .cells #[.int .i64 t799, .slice Ao25 t800.length co25] 29 (0, 0)) (by (with_reducible repeat (first | refine blk_drewN ?_ _ | refine blk_drew ?_ | refine blk_alloc ?_ _)); refine blk_far ?_ NB804_815.out _; (with_reducible repeat (first | refine blk_drewN ?_ _ | refine blk_drew ?_ | refine blk_alloc ?_ _)); refine blk_far ?_ NB804_815.out _; (with_reducible repeat (first | refine blk_drewN ?_ _ | refine blk_drew ?_ | refine blk_alloc ?_ _)); exact BK804.out) hb); have n6_ := Aside0.mk (blk_below (g := gb809) (o := .cells #[.int .i64 t805, .slice Ao32 t806.length co32] 29 (0, 0)) (by (with_reducible repeat (first | refine blk_drewN ?_ _ | refine blk_drew ?_ | refine blk_alloc ?_ _)); refine blk_far ?_ NB809_815.out _; (with_reducible repeat (first | refine blk_drewN ?_ _ | refine blk_drew ?_ | refine blk_alloc ?_ _)); refine blk_far ?_ NB809_815.out _; (with_reducible repeat (first | refine blk_drewN ?_ _ | refine blk_drew ?_ | refine blk_alloc ?_ _)); exact BK809.out) hb); have n7_ := Aside0.mk (blk_below (g := gb815) (o := .cells #[.int .i64 t810, .slice Ao39 t811.length co39] 29 (0, 0)) (by (with_reducible repeat (first | refine blk_drewN ?_ _ | refine blk_drew ?_ | refine blk_alloc ?_ _)); refine blk_put (cs := #[.int .i64 t810, .slice none 0 0]) ?_ 1 _ rfl; (with_reducible repeat (first | refine blk_drewN ?_ _ | refine blk_drew ?_ | refine blk_alloc ?_ _)); refine blk_put (cs := #[.int .i64 0, .slice none 0 0]) ?_ 0 _ rfl; (with_reducible repeat (first | refine blk_drewN ?_ _ | refine blk_drew ?_ | refine blk_alloc ?_ _)); exact BK815.out) hb); have n8_ := Aside0.mk (below_step BG hb); clear HO798; clear HO802; clear HO808; clear HO813; clear BK793; clear BK804; clear BK809; clear BK815; clear HB; have HO798 := n0_; have HO802 := n1_; have HO808 := n2_; have HO813 := n3_; have BK793 := n4_; have BK804 := n5_; have BK809 := n6_; have BK815 := n7_; have HB := n8_; clear n0_ n1_ n2_ n3_ n4_ n5_ n6_ n7_ n8_; (try clear hb); (try clear hb2); (try clear hk); (try clear hi)))
     go_meet
     case rel => exact ⟨_, ((t814 != t803)), RS, H', ⟨by first | omega | exact Nat.le_refl _⟩, ⟨by (with_reducible repeat (first | apply Kd.R_alloc | apply Kd.R_drewN | apply Kd.R_drew)); exact Kd.R_mono HO802.out (fun _ hk => ⟨hk.1.2, hk.2⟩)⟩, ⟨by (with_reducible repeat (first | apply Kd.R_alloc | apply Kd.R_drewN | apply Kd.R_drew)); exact Kd.R_mono HO808.out (fun _ hk => ⟨hk.1.2, hk.2⟩)⟩, ⟨by (with_reducible repeat (first | apply Kd.R_alloc | apply Kd.R_drewN | apply Kd.R_drew)); exact Kd.R_mono HO813.out (fun _ hk => ⟨hk.1.2, hk.2⟩)⟩, ⟨by (with_reducible repeat (first | refine blk_drewN ?_ _ | refine blk_drew ?_ | refine blk_alloc ?_ _)); exact BK793.out⟩, ⟨by (with_reducible repeat (first | refine blk_drewN ?_ _ | refine blk_drew ?_ | refine blk_alloc ?_ _)); exact BK804.out⟩, ⟨by (with_reducible repeat (first | refine blk_drewN ?_ _ | refine blk_drew ?_ | refine blk_alloc ?_ _)); exact BK809.out⟩, ⟨by (with_reducible repeat (first | refine blk_drewN ?_ _ | refine blk_drew ?_ | refine blk_alloc ?_ _)); exact BK815.out⟩, ⟨by repeat (first | (with_reducible first | exact HB.out | apply below_alloc | apply pw_below_drewN | apply below_drew1 | refine below_set ?_ GE793.out | refine below_set ?_ GE804.out | refine below_set ?_ GE809.out | refine below_set ?_ GE815.out) | exact HB.out)⟩⟩
    ·replace c41 := Bool.eq_false_iff.mpr c41
     subst c41
     replace H := IN H
     have H' := Aside0.mk H
     clear H
     have hnb50 := NB815_793.out
     have hnc50 := NB793_815.out
     have hnb51 := NB815_804.out
     have hnc51 := NB804_815.out
     have hnb52 := NB815_809.out
     have hnc52 := NB809_815.out
     obtain ⟨hcz53_0, hcz53_1, hfz53_0, hfz53_1⟩ := bk2 BK815.out
     have hnb54 := NB804_793.out
     have hnc54 := NB793_804.out
     have hnb55 := NB804_809.out
     have hnc55 := NB809_804.out
     obtain ⟨hcz56_0, hcz56_1, hfz56_0, hfz56_1⟩ := bk2 BK804.out
     go_wp2_with (first | ((with_reducible refine gate_callee (f := 15) rfl ?_); refine goesL_ (some 41) rfl rfl Try.func15 (by kernel_rfl) rfl #[.agg #[.int .i64 t810, .slice Ao39 t811.length co39], .agg #[.int .i64 t799, .slice Ao25 t800.length co25]] rfl AQ ?_; (with_reducible refine (laws_eqTable.calls k t810 _ _ t811 t799 _ _ t800 false _ ?side1 ?side2 ?side3 ?side4 A40.out).mono ?_); (case side1 => refine (Kd.R_reads' (e := 50) (base := w.heap.size) (ok := fun k_ => (((True ∧ some k_ ≠ (.slice Ao20 t796.length co20 : Value).ownBlock) ∧ some k_ ≠ (.slice Ao25 t800.length co25 : Value).ownBlock) ∧ some k_ ≠ (.slice Ao32 t806.length co32 : Value).ownBlock)) (n := t811.length) (c := co39) ?_).2.2; exact (by (with_reducible repeat (first | apply Kd.R_alloc | apply Kd.R_drewN | apply Kd.R_drew)); exact (FM (FR (FR (Kd.R_types HO813.out BK815.out (by decide))))))); (case side2 => exact (Kd.R_reads' HO813.out).2.1); (case side3 => refine (Kd.R_reads' (e := 50) (base := w.heap.size) (ok := fun k_ => (((True ∧ some k_ ≠ (.slice Ao20 t796.length co20 : Value).ownBlock) ∧ some k_ ≠ (.slice Ao32 t806.length co32 : Value).ownBlock) ∧ some k_ ≠ (.slice Ao39 t811.length co39 : Value).ownBlock)) (n := t800.length) (c := co25) ?_).2.2; exact (by (with_reducible repeat (first | apply Kd.R_alloc | apply Kd.R_drewN | apply Kd.R_drew)); exact (FM (FR (FR (Kd.R_types HO802.out BK815.out (by decide))))))); (case side4 => exact (Kd.R_reads' HO802.out).2.1); rintro e w57 ⟨rfl, hb⟩; refine ⟨_, rfl, ?_⟩; have n0_ := Aside0.mk (Kd.R_below (by (with_reducible repeat (first | apply Kd.R_alloc | apply Kd.R_drewN | apply Kd.R_drew)); exact (FM (FR (FR (Kd.R_types HO798.out BK815.out (by decide)))))) hb); have n1_ := Aside0.mk (Kd.R_below (by (with_reducible repeat (first | apply Kd.R_alloc | apply Kd.R_drewN | apply Kd.R_drew)); exact (FM (FR (FR (Kd.R_types HO802.out BK815.out (by decide)))))) hb); have n2_ := Aside0.mk (Kd.R_below (by (with_reducible repeat (first | apply Kd.R_alloc | apply Kd.R_drewN | apply Kd.R_drew)); exact (FM (FR (FR (Kd.R_types HO808.out BK815.out (by decide)))))) hb); have n3_ := Aside0.mk (Kd.R_below (by (with_reducible repeat (first | apply Kd.R_alloc | apply Kd.R_drewN | apply Kd.R_drew)); exact (FM (FR (FR (Kd.R_types HO813.out BK815.out (by decide)))))) hb); have n4_ := Aside0.mk (blk_below (g := gb793) (o := .cells #[.int .i64 a0_0, .slice A0_1 l0_1.length c0_1] 24 (0, 0)) (by (with_reducible repeat (first | refine blk_drewN ?_ _ | refine blk_drew ?_ | refine blk_alloc ?_ _)); refine blk_far ?_ NB793_815.out _; (with_reducible repeat (first | refine blk_drewN ?_ _ | refine blk_drew ?_ | refine blk_alloc ?_ _)); refine blk_far ?_ NB793_815.out _; (with_reducible repeat (first | refine blk_drewN ?_ _ | refine blk_drew ?_ | refine blk_alloc ?_ _)); exact BK793.out) hb); have n5_ := Aside0.mk (blk_below (g := gb804) (o := .cells #[.int .i64 t799, .slice Ao25 t800.length co25] 29 (0, 0)) (by (with_reducible repeat (first | refine blk_drewN ?_ _ | refine blk_drew ?_ | refine blk_alloc ?_ _)); refine blk_far ?_ NB804_815.out _; (with_reducible repeat (first | refine blk_drewN ?_ _ | refine blk_drew ?_ | refine blk_alloc ?_ _)); refine blk_far ?_ NB804_815.out _; (with_reducible repeat (first | refine blk_drewN ?_ _ | refine blk_drew ?_ | refine blk_alloc ?_ _)); exact BK804.out) hb); have n6_ := Aside0.mk (blk_below (g := gb809) (o := .cells #[.int .i64 t805, .slice Ao32 t806.length co32] 29 (0, 0)) (by (with_reducible repeat (first | refine blk_drewN ?_ _ | refine blk_drew ?_ | refine blk_alloc ?_ _)); refine blk_far ?_ NB809_815.out _; (with_reducible repeat (first | refine blk_drewN ?_ _ | refine blk_drew ?_ | refine blk_alloc ?_ _)); refine blk_far ?_ NB809_815.out _; (with_reducible repeat (first | refine blk_drewN ?_ _ | refine blk_drew ?_ | refine blk_alloc ?_ _)); exact BK809.out) hb); have n7_ := Aside0.mk (blk_below (g := gb815) (o := .cells #[.int .i64 t810, .slice Ao39 t811.length co39] 29 (0, 0)) (by (with_reducible repeat (first | refine blk_drewN ?_ _ | refine blk_drew ?_ | refine blk_alloc ?_ _)); refine blk_put (cs := #[.int .i64 t810, .slice none 0 0]) ?_ 1 _ rfl; (with_reducible repeat (first | refine blk_drewN ?_ _ | refine blk_drew ?_ | refine blk_alloc ?_ _)); refine blk_put (cs := #[.int .i64 0, .slice none 0 0]) ?_ 0 _ rfl; (with_reducible repeat (first | refine blk_drewN ?_ _ | refine blk_drew ?_ | refine blk_alloc ?_ _)); exact BK815.out) hb); have n8_ := Aside0.mk (below_step BG hb); clear HO798; clear HO802; clear HO808; clear HO813; clear BK793; clear BK804; clear BK809; clear BK815; clear HB; have HO798 := n0_; have HO802 := n1_; have HO808 := n2_; have HO813 := n3_; have BK793 := n4_; have BK804 := n5_; have BK809 := n6_; have BK815 := n7_; have HB := n8_; clear n0_ n1_ n2_ n3_ n4_ n5_ n6_ n7_ n8_; (try clear hb); (try clear hb2); (try clear hk); (try clear hi)))
     go_meet
     case rel => exact ⟨_, (true), RS, H', ⟨by first | omega | exact Nat.le_refl _⟩, ⟨by (with_reducible repeat (first | apply Kd.R_alloc | apply Kd.R_drewN | apply Kd.R_drew)); exact Kd.R_mono HO802.out (fun _ hk => ⟨hk.1.2, hk.2⟩)⟩, ⟨by (with_reducible repeat (first | apply Kd.R_alloc | apply Kd.R_drewN | apply Kd.R_drew)); exact Kd.R_mono HO808.out (fun _ hk => ⟨hk.1.2, hk.2⟩)⟩, ⟨by (with_reducible repeat (first | apply Kd.R_alloc | apply Kd.R_drewN | apply Kd.R_drew)); exact Kd.R_mono HO813.out (fun _ hk => ⟨hk.1.2, hk.2⟩)⟩, ⟨by (with_reducible repeat (first | refine blk_drewN ?_ _ | refine blk_drew ?_ | refine blk_alloc ?_ _)); exact BK793.out⟩, ⟨by (with_reducible repeat (first | refine blk_drewN ?_ _ | refine blk_drew ?_ | refine blk_alloc ?_ _)); exact BK804.out⟩, ⟨by (with_reducible repeat (first | refine blk_drewN ?_ _ | refine blk_drew ?_ | refine blk_alloc ?_ _)); exact BK809.out⟩, ⟨by (with_reducible repeat (first | refine blk_drewN ?_ _ | refine blk_drew ?_ | refine blk_alloc ?_ _)); exact BK815.out⟩, ⟨by repeat (first | (with_reducible first | exact HB.out | apply below_alloc | apply pw_below_drewN | apply below_drew1 | refine below_set ?_ GE793.out | refine below_set ?_ GE804.out | refine below_set ?_ GE809.out | refine below_set ?_ GE815.out) | exact HB.out)⟩⟩
   case rest =>
    clear HC14
    try clear c1
    try clear c2
    try clear p2
    try clear c3
    try clear c3b0
    try clear c3b1
    try clear c4
    try clear c5
    try clear c6
    try clear c6b0
    try clear c10
    try clear c11
    try clear c13
    try clear c15
    try clear c23
    try clear c29
    try clear c30
    try clear c33
    try clear c34
    try clear c35
    try clear c36
    try clear c37
    try clear c41
    try clear c42
    try clear c43
    try clear c44
    try clear c46
    try clear c47
    try clear c50
    try clear c51
    try clear c52
    try clear c54
    try clear c55
    try clear hcz16_0
    try clear hcz16_1
    try clear hcz18_0
    try clear hcz18_1
    try clear hcz24_0
    try clear hcz24_1
    try clear hcz26_0
    try clear hcz26_1
    try clear hcz31_0
    try clear hcz31_1
    try clear hcz38_0
    try clear hcz38_1
    try clear hcz45_0
    try clear hcz45_1
    try clear hcz48_0
    try clear hcz48_1
    try clear hcz53_0
    try clear hcz53_1
    try clear hcz56_0
    try clear hcz56_1
    try clear hcz8_0
    try clear hcz8_1
    try clear hfz16_0
    try clear hfz16_1
    try clear hfz18_0
    try clear hfz18_1
    try clear hfz24_0
    try clear hfz24_1
    try clear hfz26_0
    try clear hfz26_1
    try clear hfz31_0
    try clear hfz31_1
    try clear hfz38_0
    try clear hfz38_1
    try clear hfz45_0
    try clear hfz45_1
    try clear hfz48_0
    try clear hfz48_1
    try clear hfz53_0
    try clear hfz53_1
    try clear hfz56_0
    try clear hfz56_1
    try clear hfz8_0
    try clear hfz8_1
    obtain ⟨kq, x47_13, rfl, HA, HJ13, HO_805001, HO_810001, HO_816001, BK793, BK804, BK809, BK815, HB⟩ := hcut
    cases kq with
    | zero => exact absurd HA.out (by simp [laws_FnExactAdd.j0])
    | succ kj13 =>
     have H := HA.out
     clear HA
     simp only [laws_FnExactAdd.j0] at H
     by_cases c58 : x47_13 = true
     ·subst c58
      replace H := IP H
      exact absurd H (by simp)
     ·replace c58 := Bool.eq_false_iff.mpr c58
      subst c58
      replace H := IN H
      replace H := BS H
      obtain ⟨⟨t817, t818⟩, A590, H⟩ := H
      have A59 := Aside0.mk A590
      clear A590
      replace H := BS H
      obtain ⟨t821, A600, H⟩ := H
      have A60 := Aside0.mk A600
      clear A600
      by_cases c61 : t821 = true
      ·subst c61
       replace H := IP H
       replace H := BS H
       obtain ⟨⟨t822, t823⟩, A620, H⟩ := H
       have A62 := Aside0.mk A620
       clear A620
       have HC63 := Aside0.mk H
       clear H
       try go_wp2
       have n0_ := Aside0.mk (Kd.R_drew HO_805001.out)
       have n1_ := Aside0.mk (Kd.R_drew HO_810001.out)
       have n2_ := Aside0.mk (Kd.R_drew HO_816001.out)
       have n3_ := Aside0.mk (blk_drew BK793.out)
       have n4_ := Aside0.mk (blk_drew BK804.out)
       have n5_ := Aside0.mk (blk_drew BK809.out)
       have n6_ := Aside0.mk (blk_drew BK815.out)
       have n7_ := Aside0.mk (below_drew1 HB.out)
       clear HO_805001
       clear HO_810001
       clear HO_816001
       clear BK793
       clear BK804
       clear BK809
       clear BK815
       clear HB
       have HO_805001 := n0_
       have HO_810001 := n1_
       have HO_816001 := n2_
       have BK793 := n3_
       have BK804 := n4_
       have BK809 := n5_
       have BK815 := n6_
       have HB := n7_
       clear n0_ n1_ n2_ n3_ n4_ n5_ n6_ n7_
       refine start_ (n := 5) (S := fun w' => w'.cell? ⟨gb809, 0, none⟩ = some (.int .i64 t805) ∧ w'.cell? ⟨gb809, 1, none⟩ = some (.slice Ao32 t806.length co32) ∧ w'.cell? ⟨gb793, 0, none⟩ = some (.int .i64 a0_0) ∧ w'.cell? ⟨gb793, 1, none⟩ = some (.slice A0_1 l0_1.length c0_1)) (ds := []) #[false, false, false, false, false] (by kernel_rfl) rfl rfl ⟨(blk_cell BK809.out 0).trans rfl, (blk_cell BK809.out 1).trans rfl, (blk_cell BK793.out 0).trans rfl, (blk_cell BK793.out 1).trans rfl⟩ (fun hHeld => ?_)
       generalize wc.drew = w64 at HO_805001 HO_810001 HO_816001 BK793 BK804 BK809 BK815 HB hHeld ⊢
       refine PK (i := 0) (N := some 48) (tf 1 4) rfl rfl hHeld ?_
       refine PK (i := 1) (N := some 49) (tf 2 3) rfl rfl hHeld ?_
       refine one_ (i := 2) (N := some 50) (tf 3 2) rfl rfl (by kernel_rfl) (by decide) (fun K hK => ?_)
       refine goes_ Try.func13 (by kernel_rfl) rfl #[.agg #[.int .i64 a0_0, .slice A0_1 l0_1.length c0_1]] (by rfl) rfl rfl AQ ?_
       with_reducible refine (laws_toTable.calls kj13 a0_0 _ _ l0_1 t817 t818 _ ?side1 ?side2 A59.out).mono ?_
       (case side1 => exact SC HR0_1)
       (case side2 => exact HC0_1.out)
       rintro e w65 ⟨v819, rfl, ho0, hb⟩
       refine ⟨_, rfl, ?_⟩
       have n0_ := Aside0.mk (Kd.R_elder' (RD HO_805001) (Kd.R_base ho0) hb)
       have n1_ := Aside0.mk (Kd.R_elder' (RD HO_810001) (Kd.R_base ho0) hb)
       have n2_ := Aside0.mk (Kd.R_elder' (RD HO_816001) (Kd.R_base ho0) hb)
       have n3_ := Aside0.mk (Kd.R_lower (Kd.R_new' (Kd.R_new' (Kd.R_new' ho0 (Kd.R_lt (RD HO_805001))) (Kd.R_lt (RD HO_810001))) (Kd.R_lt (RD HO_816001))) (below_size BG))
       have n4_ := Aside0.mk (blk_below (BD BK793) hb)
       have n5_ := Aside0.mk (blk_below (BD BK804) hb)
       have n6_ := Aside0.mk (blk_below (BD BK809) hb)
       have n7_ := Aside0.mk (blk_below (BD BK815) hb)
       have n8_ := Aside0.mk (below_step BG hb)
       clear HO_805001
       clear HO_810001
       clear HO_816001
       clear BK793
       clear BK804
       clear BK809
       clear BK815
       clear HB
       have HO_805001 := n0_
       have HO_810001 := n1_
       have HO_816001 := n2_
       have HO820 := n3_
       have BK793 := n4_
       have BK804 := n5_
       have BK809 := n6_
       have BK815 := n7_
       have HB := n8_
       clear n0_ n1_ n2_ n3_ n4_ n5_ n6_ n7_ n8_
       (try clear hb)
       (try clear hb2)
       (try clear hk)
       (try clear hi)
       (try clear ho0)
       obtain ⟨Ao66, co66, eo66⟩ := Kd.R_slice HO820.out
       (first | subst eo66 | (injection eo66 with f1_ f2_ f3_; have f4_ := f1_.symm; have f5_ := f3_.symm; clear f1_ f2_ f3_; subst f4_; subst f5_))
       refine hK.out _ _ ⟨(blk_cell BK809.out 0).trans rfl, (blk_cell BK809.out 1).trans rfl, (blk_cell BK793.out 0).trans rfl, (blk_cell BK793.out 1).trans rfl⟩ (fun hHeld => ?_)
       clear hK K
       refine NM (some 50) ?_
       refine one_ (i := 3) (N := some 51) (tf 4 1) rfl rfl (by kernel_rfl) (by decide) (fun K hK => ?_)
       refine goes_ Try.func15 (by kernel_rfl) rfl #[.agg #[.int .i64 t805, .slice Ao32 t806.length co32], .agg #[.int .i64 t817, .slice Ao66 t818.length co66]] (by rfl) rfl rfl AQ ?_
       with_reducible refine (laws_eqTable.calls kj13 t805 _ _ t806 t817 _ _ t818 true _ ?side1 ?side2 ?side3 ?side4 A60.out).mono ?_
       (case side1 => exact SR HO_810001)
       (case side2 => exact (Kd.R_reads' HO_810001.out).2.1)
       (case side3 => exact SR HO820)
       (case side4 => exact (Kd.R_reads' HO820.out).2.1)
       rintro e w67 ⟨rfl, hb⟩
       refine ⟨_, rfl, ?_⟩
       have n0_ := Aside0.mk (Kd.R_below (RD HO_805001) hb)
       have n1_ := Aside0.mk (Kd.R_below (RD HO_810001) hb)
       have n2_ := Aside0.mk (Kd.R_below (RD HO_816001) hb)
       have n3_ := Aside0.mk (Kd.R_below (RD HO820) hb)
       have n4_ := Aside0.mk (blk_below (BD BK793) hb)
       have n5_ := Aside0.mk (blk_below (BD BK804) hb)
       have n6_ := Aside0.mk (blk_below (BD BK809) hb)
       have n7_ := Aside0.mk (blk_below (BD BK815) hb)
       have n8_ := Aside0.mk (below_step BG hb)
       clear HO_805001
       clear HO_810001
       clear HO_816001
       clear HO820
       clear BK793
       clear BK804
       clear BK809
       clear BK815
       clear HB
       have HO_805001 := n0_
       have HO_810001 := n1_
       have HO_816001 := n2_
       have HO820 := n3_
       have BK793 := n4_
       have BK804 := n5_
       have BK809 := n6_
       have BK815 := n7_
       have HB := n8_
       clear n0_ n1_ n2_ n3_ n4_ n5_ n6_ n7_ n8_
       (try clear hb)
       (try clear hb2)
       (try clear hk)
       (try clear hi)
       refine hK.out _ _ ⟨(blk_cell BK809.out 0).trans rfl, (blk_cell BK809.out 1).trans rfl, (blk_cell BK793.out 0).trans rfl, (blk_cell BK793.out 1).trans rfl⟩ (fun hHeld => ?_)
       clear hK K
       refine NM (some 51) ?_
       refine PV (i := 4) (N := some 52) (tf 5 0) rfl rfl ?_
       refine done_ (by kernel_rfl) ?_
       have hnb68 := NB809_793.out
       have hnc68 := NB793_809.out
       have hnb69 := NB809_804.out
       have hnc69 := NB804_809.out
       have hnb70 := NB809_815.out
       have hnc70 := NB815_809.out
       obtain ⟨hcz71_0, hcz71_1, hfz71_0, hfz71_1⟩ := bk2 BK809.out
       go_upto_region 16 with (first | ((with_reducible refine gate_callee (f := 20) rfl ?_); refine goesL_ (some 55) rfl rfl Try.func20 (by kernel_rfl) rfl #[.agg #[.int .i64 t805, .slice Ao32 t806.length co32], .int .i64 1] rfl AQ ?_; (with_reducible refine (laws_markTable.calls kj13 t805 (fun k_ => some k_ = (.slice Ao32 t806.length co32 : Value).ownBlock) (.slice Ao32 t806.length co32) t806 1 t822 t823 w _ ?side1 ?side2 A62.out).mono ?_); (case side1 => repeat (first | (with_reducible first | exact HB.out | apply below_alloc | apply pw_below_drewN | apply below_drew1 | refine below_set ?_ GE793.out | refine below_set ?_ GE804.out | refine below_set ?_ GE809.out | refine below_set ?_ GE815.out) | exact HB.out)); (case side2 => exact Kd.R_tight rfl HO_810001.out); rintro e w72 ⟨rfl, hy0, hb, hkp⟩; refine ⟨_, rfl, ?_⟩; have n0_ := Aside0.mk (Kd.R_mono (ok' := fun k_ => some k_ ≠ (.slice Ao32 t806.length co32 : Value).ownBlock ∧ some k_ ≠ (.slice Ao39 t811.length co39 : Value).ownBlock ∧ some k_ ≠ (.slice Ao66 t818.length co66 : Value).ownBlock) (Kd.R_keptB (HO_805001.out) hkp MK) MO); have n1_ := Aside0.mk (Kd.R_reok rfl hy0 (fun k_ e_ => HO_810001.out.1 k_ e_)); have n2_ := Aside0.mk (Kd.R_mono (ok' := fun k_ => some k_ ≠ (.slice Ao25 t800.length co25 : Value).ownBlock ∧ some k_ ≠ (.slice Ao32 t806.length co32 : Value).ownBlock ∧ some k_ ≠ (.slice Ao66 t818.length co66 : Value).ownBlock) (Kd.R_keptB (HO_816001.out) hkp MK) MO); have n3_ := Aside0.mk (blk_kept (by (with_reducible repeat (first | refine blk_drewN ?_ _ | refine blk_drew ?_ | refine blk_alloc ?_ _)); exact BK793.out) hkp (fun hs_ => (fun e_ => (Kd.R_ne HO_810001.out BK793.out (by decide)) e_) hs_)); have n4_ := Aside0.mk (blk_kept (by (with_reducible repeat (first | refine blk_drewN ?_ _ | refine blk_drew ?_ | refine blk_alloc ?_ _)); exact BK804.out) hkp (fun hs_ => (fun e_ => (Kd.R_ne HO_810001.out BK804.out (by decide)) e_) hs_)); have n5_ := Aside0.mk (blk_kept (by (with_reducible repeat (first | refine blk_drewN ?_ _ | refine blk_drew ?_ | refine blk_alloc ?_ _)); exact BK809.out) hkp (fun hs_ => (fun e_ => (Kd.R_ne HO_810001.out BK809.out (by decide)) e_) hs_)); have n6_ := Aside0.mk (blk_kept (by (with_reducible repeat (first | refine blk_drewN ?_ _ | refine blk_drew ?_ | refine blk_alloc ?_ _)); exact BK815.out) hkp (fun hs_ => (fun e_ => (Kd.R_ne HO_810001.out BK815.out (by decide)) e_) hs_)); have n7_ := Aside0.mk (Kd.R_mono (ok' := fun k_ => some k_ ≠ (.slice Ao25 t800.length co25 : Value).ownBlock ∧ some k_ ≠ (.slice Ao32 t806.length co32 : Value).ownBlock ∧ some k_ ≠ (.slice Ao39 t811.length co39 : Value).ownBlock) (Kd.R_keptB (HO820.out) hkp MK) MO); have n8_ := Aside0.mk (hb); clear HO_805001; clear HO_810001; clear HO_816001; clear BK793; clear BK804; clear BK809; clear BK815; clear HO820; clear HB; have HO_805001 := n0_; have HO_810001 := n1_; have HO_816001 := n2_; have BK793 := n3_; have BK804 := n4_; have BK809 := n5_; have BK815 := n6_; have HO820 := n7_; have HB := n8_; clear n0_ n1_ n2_ n3_ n4_ n5_ n6_ n7_ n8_; (try clear hb); (try clear hkp); (try clear hy0)))
       (try simp only [Act.put, List.setIfInBounds_toArray, List.set_cons_zero, List.set_cons_succ])
       go_cut [68] (fun v68 wc => ∃ (kq : Nat) (x68_62 : Bool), v68 = .bool x68_62 ∧ Aside0 (laws_FnExactAdd.j1 kq a1 t803 x68_62 a0_0 l0_1 t799 t800 t810 t811 = some r) ∧ Aside0 (kq ≤ kj13) ∧ Aside0 (Kd.R k50 50 wc w.heap.size (fun k_ => some k_ ≠ ((.slice Ao32 t806.length co32) : Value).ownBlock ∧ some k_ ≠ ((.slice Ao39 t811.length co39) : Value).ownBlock) (.slice Ao25 t800.length co25) t800) ∧ Aside0 (Kd.R k50 50 wc w.heap.size (fun k_ => some k_ ≠ ((.slice Ao25 t800.length co25) : Value).ownBlock ∧ some k_ ≠ ((.slice Ao39 t811.length co39) : Value).ownBlock) (.slice Ao32 t806.length co32) t823) ∧ Aside0 (Kd.R k50 50 wc w.heap.size (fun k_ => some k_ ≠ ((.slice Ao25 t800.length co25) : Value).ownBlock ∧ some k_ ≠ ((.slice Ao32 t806.length co32) : Value).ownBlock) (.slice Ao39 t811.length co39) t811) ∧ Aside0 (wc.heap[gb793]? = some (.cells #[.int .i64 a0_0, (.slice A0_1 l0_1.length c0_1)] 24 (0, 0))) ∧ Aside0 (wc.heap[gb804]? = some (.cells #[.int .i64 t799, (.slice Ao25 t800.length co25)] 29 (0, 0))) ∧ Aside0 (wc.heap[gb809]? = some (.cells #[.int .i64 t805, (.slice Ao32 t806.length co32)] 29 (0, 0))) ∧ Aside0 (wc.heap[gb815]? = some (.cells #[.int .i64 t810, (.slice Ao39 t811.length co39)] 29 (0, 0))) ∧ Aside0 (Below w.heap.size w wc))
       case first =>
        have H := HC63.out
        clear HC63
        by_cases c73 : t822 < 0
        ·rw [if_pos c73] at H
         have c73b0 : decide (t822 < 0) = true := decide_eq_true c73
         clear c73
         (first | rw [c73b0] | (simp only [i64_w, i32_w]; rw [c73b0]) | skip)
         have H' := Aside0.mk H
         clear H
         go_wp2
         go_meet
         case rel => exact ⟨_, (true), RS, H', ⟨by have := HJ13.out; first | omega | exact Nat.le_refl _⟩, ⟨by (with_reducible repeat (first | apply Kd.R_alloc | apply Kd.R_drewN | apply Kd.R_drew)); exact Kd.R_mono HO_805001.out (fun _ hk => ⟨hk.1, hk.2.1⟩)⟩, ⟨by (with_reducible repeat (first | apply Kd.R_alloc | apply Kd.R_drewN | apply Kd.R_drew)); exact Kd.R_mono HO_810001.out (fun _ hk => ⟨hk.1.1, hk.1.2⟩)⟩, ⟨by (with_reducible repeat (first | apply Kd.R_alloc | apply Kd.R_drewN | apply Kd.R_drew)); exact Kd.R_mono HO_816001.out (fun _ hk => ⟨hk.1, hk.2.1⟩)⟩, ⟨by (with_reducible repeat (first | refine blk_drewN ?_ _ | refine blk_drew ?_ | refine blk_alloc ?_ _)); exact BK793.out⟩, ⟨by (with_reducible repeat (first | refine blk_drewN ?_ _ | refine blk_drew ?_ | refine blk_alloc ?_ _)); exact BK804.out⟩, ⟨by (with_reducible repeat (first | refine blk_drewN ?_ _ | refine blk_drew ?_ | refine blk_alloc ?_ _)); exact BK809.out⟩, ⟨by (with_reducible repeat (first | refine blk_drewN ?_ _ | refine blk_drew ?_ | refine blk_alloc ?_ _)); exact BK815.out⟩, ⟨by repeat (first | (with_reducible first | exact HB.out | apply below_alloc | apply pw_below_drewN | apply below_drew1 | refine below_set ?_ GE793.out | refine below_set ?_ GE804.out | refine below_set ?_ GE809.out | refine below_set ?_ GE815.out) | exact HB.out)⟩⟩
        ·rw [if_neg c73] at H
         have c73b0 : decide (t822 < 0) = false := decide_eq_false c73
         clear c73
         (first | rw [c73b0] | (simp only [i64_w, i32_w]; rw [c73b0]) | skip)
         replace H := BS H
         obtain ⟨t824, A740, H⟩ := H
         have A74 := Aside0.mk A740
         clear A740
         by_cases c75 : t824 = true
         ·subst c75
          replace H := IP H
          have H' := Aside0.mk H
          clear H
          have hnb76 := NB815_793.out
          have hnc76 := NB793_815.out
          have hnb77 := NB815_804.out
          have hnc77 := NB804_815.out
          have hnb78 := NB815_809.out
          have hnc78 := NB809_815.out
          obtain ⟨hcz79_0, hcz79_1, hfz79_0, hfz79_1⟩ := bk2 BK815.out
          have hnb80 := NB804_793.out
          have hnc80 := NB793_804.out
          have hnb81 := NB804_809.out
          have hnc81 := NB809_804.out
          obtain ⟨hcz82_0, hcz82_1, hfz82_0, hfz82_1⟩ := bk2 BK804.out
          go_wp2_with (first | (go_at_call 15; (with_reducible refine (laws_eqTable.calls kj13 t810 _ _ t811 t799 _ _ t800 true _ ?side1 ?side2 ?side3 ?side4 A74.out).mono ?_); (case side1 => exact SR HO_816001); (case side2 => exact (Kd.R_reads' HO_816001.out).2.1); (case side3 => exact SR HO_805001); (case side4 => exact (Kd.R_reads' HO_805001.out).2.1); rintro e w83 ⟨rfl, hb⟩; have n0_ := Aside0.mk (Kd.R_below (RD HO_805001) hb); have n1_ := Aside0.mk (Kd.R_below (RD HO_810001) hb); have n2_ := Aside0.mk (Kd.R_below (RD HO_816001) hb); have n3_ := Aside0.mk (Kd.R_below (RD HO820) hb); have n4_ := Aside0.mk (blk_below (BD BK793) hb); have n5_ := Aside0.mk (blk_below (BD BK804) hb); have n6_ := Aside0.mk (blk_below (BD BK809) hb); have n7_ := Aside0.mk (blk_below (BD BK815) hb); have n8_ := Aside0.mk (below_step BG hb); clear HO_805001; clear HO_810001; clear HO_816001; clear HO820; clear BK793; clear BK804; clear BK809; clear BK815; clear HB; have HO_805001 := n0_; have HO_810001 := n1_; have HO_816001 := n2_; have HO820 := n3_; have BK793 := n4_; have BK804 := n5_; have BK809 := n6_; have BK815 := n7_; have HB := n8_; clear n0_ n1_ n2_ n3_ n4_ n5_ n6_ n7_ n8_; (try clear hb); (try clear hb2); (try clear hk); (try clear hi)))
          go_meet
          case rel => exact ⟨_, ((t814 != t803)), RS, H', ⟨by have := HJ13.out; first | omega | exact Nat.le_refl _⟩, ⟨by (with_reducible repeat (first | apply Kd.R_alloc | apply Kd.R_drewN | apply Kd.R_drew)); exact Kd.R_mono HO_805001.out (fun _ hk => ⟨hk.1, hk.2.1⟩)⟩, ⟨by (with_reducible repeat (first | apply Kd.R_alloc | apply Kd.R_drewN | apply Kd.R_drew)); exact Kd.R_mono HO_810001.out (fun _ hk => ⟨hk.1.1, hk.1.2⟩)⟩, ⟨by (with_reducible repeat (first | apply Kd.R_alloc | apply Kd.R_drewN | apply Kd.R_drew)); exact Kd.R_mono HO_816001.out (fun _ hk => ⟨hk.1, hk.2.1⟩)⟩, ⟨by (with_reducible repeat (first | refine blk_drewN ?_ _ | refine blk_drew ?_ | refine blk_alloc ?_ _)); exact BK793.out⟩, ⟨by (with_reducible repeat (first | refine blk_drewN ?_ _ | refine blk_drew ?_ | refine blk_alloc ?_ _)); exact BK804.out⟩, ⟨by (with_reducible repeat (first | refine blk_drewN ?_ _ | refine blk_drew ?_ | refine blk_alloc ?_ _)); exact BK809.out⟩, ⟨by (with_reducible repeat (first | refine blk_drewN ?_ _ | refine blk_drew ?_ | refine blk_alloc ?_ _)); exact BK815.out⟩, ⟨by repeat (first | (with_reducible first | exact HB.out | apply below_alloc | apply pw_below_drewN | apply below_drew1 | refine below_set ?_ GE793.out | refine below_set ?_ GE804.out | refine below_set ?_ GE809.out | refine below_set ?_ GE815.out) | exact HB.out)⟩⟩
         ·replace c75 := Bool.eq_false_iff.mpr c75
          subst c75
          replace H := IN H
          have H' := Aside0.mk H
          clear H
          have hnb84 := NB815_793.out
          have hnc84 := NB793_815.out
          have hnb85 := NB815_804.out
          have hnc85 := NB804_815.out
          have hnb86 := NB815_809.out
          have hnc86 := NB809_815.out
          obtain ⟨hcz87_0, hcz87_1, hfz87_0, hfz87_1⟩ := bk2 BK815.out
          have hnb88 := NB804_793.out
          have hnc88 := NB793_804.out
          have hnb89 := NB804_809.out
          have hnc89 := NB809_804.out
          obtain ⟨hcz90_0, hcz90_1, hfz90_0, hfz90_1⟩ := bk2 BK804.out
          go_wp2_with (first | (go_at_call 15; (with_reducible refine (laws_eqTable.calls kj13 t810 _ _ t811 t799 _ _ t800 false _ ?side1 ?side2 ?side3 ?side4 A74.out).mono ?_); (case side1 => exact SR HO_816001); (case side2 => exact (Kd.R_reads' HO_816001.out).2.1); (case side3 => exact SR HO_805001); (case side4 => exact (Kd.R_reads' HO_805001.out).2.1); rintro e w91 ⟨rfl, hb⟩; have n0_ := Aside0.mk (Kd.R_below (RD HO_805001) hb); have n1_ := Aside0.mk (Kd.R_below (RD HO_810001) hb); have n2_ := Aside0.mk (Kd.R_below (RD HO_816001) hb); have n3_ := Aside0.mk (Kd.R_below (RD HO820) hb); have n4_ := Aside0.mk (blk_below (BD BK793) hb); have n5_ := Aside0.mk (blk_below (BD BK804) hb); have n6_ := Aside0.mk (blk_below (BD BK809) hb); have n7_ := Aside0.mk (blk_below (BD BK815) hb); have n8_ := Aside0.mk (below_step BG hb); clear HO_805001; clear HO_810001; clear HO_816001; clear HO820; clear BK793; clear BK804; clear BK809; clear BK815; clear HB; have HO_805001 := n0_; have HO_810001 := n1_; have HO_816001 := n2_; have HO820 := n3_; have BK793 := n4_; have BK804 := n5_; have BK809 := n6_; have BK815 := n7_; have HB := n8_; clear n0_ n1_ n2_ n3_ n4_ n5_ n6_ n7_ n8_; (try clear hb); (try clear hb2); (try clear hk); (try clear hi)))
          go_meet
          case rel => exact ⟨_, (true), RS, H', ⟨by have := HJ13.out; first | omega | exact Nat.le_refl _⟩, ⟨by (with_reducible repeat (first | apply Kd.R_alloc | apply Kd.R_drewN | apply Kd.R_drew)); exact Kd.R_mono HO_805001.out (fun _ hk => ⟨hk.1, hk.2.1⟩)⟩, ⟨by (with_reducible repeat (first | apply Kd.R_alloc | apply Kd.R_drewN | apply Kd.R_drew)); exact Kd.R_mono HO_810001.out (fun _ hk => ⟨hk.1.1, hk.1.2⟩)⟩, ⟨by (with_reducible repeat (first | apply Kd.R_alloc | apply Kd.R_drewN | apply Kd.R_drew)); exact Kd.R_mono HO_816001.out (fun _ hk => ⟨hk.1, hk.2.1⟩)⟩, ⟨by (with_reducible repeat (first | refine blk_drewN ?_ _ | refine blk_drew ?_ | refine blk_alloc ?_ _)); exact BK793.out⟩, ⟨by (with_reducible repeat (first | refine blk_drewN ?_ _ | refine blk_drew ?_ | refine blk_alloc ?_ _)); exact BK804.out⟩, ⟨by (with_reducible repeat (first | refine blk_drewN ?_ _ | refine blk_drew ?_ | refine blk_alloc ?_ _)); exact BK809.out⟩, ⟨by (with_reducible repeat (first | refine blk_drewN ?_ _ | refine blk_drew ?_ | refine blk_alloc ?_ _)); exact BK815.out⟩, ⟨by repeat (first | (with_reducible first | exact HB.out | apply below_alloc | apply pw_below_drewN | apply below_drew1 | refine below_set ?_ GE793.out | refine below_set ?_ GE804.out | refine below_set ?_ GE809.out | refine below_set ?_ GE815.out) | exact HB.out)⟩⟩
       case rest =>
        clear HC63
        try clear c1
        try clear c2
        try clear p2
        try clear c3
        try clear c3b0
        try clear c3b1
        try clear c4
        try clear c5
        try clear c6
        try clear c6b0
        try clear c7
        try clear c8
        try clear c10
        try clear c11
        try clear c13
        try clear c15
        try clear c20
        try clear c23
        try clear c29
        try clear c30
        try clear c33
        try clear c34
        try clear c35
        try clear c36
        try clear c37
        try clear c41
        try clear c42
        try clear c43
        try clear c44
        try clear c46
        try clear c47
        try clear c50
        try clear c51
        try clear c52
        try clear c54
        try clear c55
        try clear c58
        try clear c61
        try clear c68
        try clear c69
        try clear c70
        try clear c73
        try clear c73b0
        try clear c75
        try clear c76
        try clear c77
        try clear c78
        try clear c80
        try clear c81
        try clear c84
        try clear c85
        try clear c86
        try clear c88
        try clear c89
        try clear hcz16_0
        try clear hcz16_1
        try clear hcz18_0
        try clear hcz18_1
        try clear hcz24_0
        try clear hcz24_1
        try clear hcz26_0
        try clear hcz26_1
        try clear hcz31_0
        try clear hcz31_1
        try clear hcz38_0
        try clear hcz38_1
        try clear hcz45_0
        try clear hcz45_1
        try clear hcz48_0
        try clear hcz48_1
        try clear hcz53_0
        try clear hcz53_1
        try clear hcz56_0
        try clear hcz56_1
        try clear hcz71_0
        try clear hcz71_1
        try clear hcz79_0
        try clear hcz79_1
        try clear hcz82_0
        try clear hcz82_1
        try clear hcz87_0
        try clear hcz87_1
        try clear hcz8_0
        try clear hcz8_1
        try clear hcz90_0
        try clear hcz90_1
        try clear hfz16_0
        try clear hfz16_1
        try clear hfz18_0
        try clear hfz18_1
        try clear hfz24_0
        try clear hfz24_1
        try clear hfz26_0
        try clear hfz26_1
        try clear hfz31_0
        try clear hfz31_1
        try clear hfz38_0
        try clear hfz38_1
        try clear hfz45_0
        try clear hfz45_1
        try clear hfz48_0
        try clear hfz48_1
        try clear hfz53_0
        try clear hfz53_1
        try clear hfz56_0
        try clear hfz56_1
        try clear hfz71_0
        try clear hfz71_1
        try clear hfz79_0
        try clear hfz79_1
        try clear hfz82_0
        try clear hfz82_1
        try clear hfz87_0
        try clear hfz87_1
        try clear hfz8_0
        try clear hfz8_1
        try clear hfz90_0
        try clear hfz90_1
        try clear p2
        obtain ⟨kq, x68_62, rfl, HA, HJ62, HO_805001, HO_810001, HO_816001, BK793, BK804, BK809, BK815, HB⟩ := hcut
        have hl810001_62 := (Kd.R_reads' HO_810001.out).1
        rw [hl810001_62] at HO_810001
        (try simp only [hl810001_62])
        (try simp only [hl810001_62] at BK793)
        (try simp only [hl810001_62] at BK804)
        (try simp only [hl810001_62] at BK809)
        (try simp only [hl810001_62] at BK815)
        (try simp only [hl810001_62] at HO_805001)
        (try simp only [hl810001_62] at HO_816001)
        cases kq with
        | zero => exact absurd HA.out (by simp [laws_FnExactAdd.j1])
        | succ kj62 =>
         have H := HA.out
         clear HA
         simp only [laws_FnExactAdd.j1] at H
         by_cases c92 : x68_62 = true
         ·subst c92
          replace H := IP H
          exact absurd H (by simp)
         ·replace c92 := Bool.eq_false_iff.mpr c92
          subst c92
          replace H := IN H
          replace H := BS H
          obtain ⟨⟨t825, t826⟩, A930, H⟩ := H
          have A93 := Aside0.mk A930
          clear A930
          replace H := BS H
          obtain ⟨t827, A940, H⟩ := H
          have A94 := Aside0.mk A940
          clear A940
          by_cases c95 : t827 < 0
          ·rw [if_pos c95] at H
           exact absurd H (by simp)
          ·rw [if_neg c95] at H
           have c95b0 : decide (t827 < 0) = false := decide_eq_false c95
           clear c95
           by_cases c96 : t827 = t825
           ·rw [if_pos c96] at H
            have c96b0 : (t827 == t825) = true := beq_iff_eq.mpr c96
            have c96b1 : (t827 != t825) = false := bne_eq_false_iff_eq.mpr c96
            clear c96
            replace H := BS H
            obtain ⟨⟨t828, t829⟩, A970, H⟩ := H
            have A97 := Aside0.mk A970
            clear A970
            replace H := BS H
            obtain ⟨⟨t832, t833, t836⟩, A980, H⟩ := H
            have A98 := Aside0.mk A980
            clear A980
            have HC99 := Aside0.mk H
            clear H
            have hnb100 := NB815_793.out
            have hnc100 := NB793_815.out
            have hnb101 := NB815_804.out
            have hnc101 := NB804_815.out
            have hnb102 := NB815_809.out
            have hnc102 := NB809_815.out
            obtain ⟨hcz103_0, hcz103_1, hfz103_0, hfz103_1⟩ := bk2 BK815.out
            go_upto_region 27 with (first | ((with_reducible refine gate_callee (f := 20) rfl ?_); refine goesL_ (some 71) rfl rfl Try.func20 (by kernel_rfl) rfl #[.agg #[.int .i64 t810, .slice Ao39 t811.length co39], .int .i64 1] rfl AQ ?_; (with_reducible refine (laws_markTable.calls kj62 t810 (fun k_ => some k_ = (.slice Ao39 t811.length co39 : Value).ownBlock) (.slice Ao39 t811.length co39) t811 1 t825 t826 w _ ?side1 ?side2 A93.out).mono ?_); (case side1 => repeat (first | (with_reducible first | exact HB.out | apply below_alloc | apply pw_below_drewN | apply below_drew1 | refine below_set ?_ GE793.out | refine below_set ?_ GE804.out | refine below_set ?_ GE809.out | refine below_set ?_ GE815.out) | exact HB.out)); (case side2 => exact Kd.R_tight rfl HO_816001.out); rintro e w104 ⟨rfl, hy0, hb, hkp⟩; refine ⟨_, rfl, ?_⟩; have n0_ := Aside0.mk (Kd.R_mono (ok' := fun k_ => some k_ ≠ (.slice Ao32 t823.length co32 : Value).ownBlock ∧ some k_ ≠ (.slice Ao39 t811.length co39 : Value).ownBlock) (Kd.R_keptB (HO_805001.out) hkp MK) MO); have n1_ := Aside0.mk (Kd.R_mono (ok' := fun k_ => some k_ ≠ (.slice Ao25 t800.length co25 : Value).ownBlock ∧ some k_ ≠ (.slice Ao39 t811.length co39 : Value).ownBlock) (Kd.R_keptB (HO_810001.out) hkp MK) MO); have n2_ := Aside0.mk (Kd.R_reok rfl hy0 (fun k_ e_ => HO_816001.out.1 k_ e_)); have n3_ := Aside0.mk (blk_kept (by (with_reducible repeat (first | refine blk_drewN ?_ _ | refine blk_drew ?_ | refine blk_alloc ?_ _)); exact BK793.out) hkp (fun hs_ => (fun e_ => (Kd.R_ne HO_816001.out BK793.out (by decide)) e_) hs_)); have n4_ := Aside0.mk (blk_kept (by (with_reducible repeat (first | refine blk_drewN ?_ _ | refine blk_drew ?_ | refine blk_alloc ?_ _)); exact BK804.out) hkp (fun hs_ => (fun e_ => (Kd.R_ne HO_816001.out BK804.out (by decide)) e_) hs_)); have n5_ := Aside0.mk (blk_kept (by (with_reducible repeat (first | refine blk_drewN ?_ _ | refine blk_drew ?_ | refine blk_alloc ?_ _)); exact BK809.out) hkp (fun hs_ => (fun e_ => (Kd.R_ne HO_816001.out BK809.out (by decide)) e_) hs_)); have n6_ := Aside0.mk (blk_kept (by (with_reducible repeat (first | refine blk_drewN ?_ _ | refine blk_drew ?_ | refine blk_alloc ?_ _)); exact BK815.out) hkp (fun hs_ => (fun e_ => (Kd.R_ne HO_816001.out BK815.out (by decide)) e_) hs_)); have n7_ := Aside0.mk (hb); clear HO_805001; clear HO_810001; clear HO_816001; clear BK793; clear BK804; clear BK809; clear BK815; clear HB; have HO_805001 := n0_; have HO_810001 := n1_; have HO_816001 := n2_; have BK793 := n3_; have BK804 := n4_; have BK809 := n5_; have BK815 := n6_; have HB := n7_; clear n0_ n1_ n2_ n3_ n4_ n5_ n6_ n7_; (try clear hb); (try clear hkp); (try clear hy0); obtain ⟨hcz105_0, hcz105_1, hfz105_0, hfz105_1⟩ := bk2 BK815.out) | ((with_reducible refine gate_callee (f := 21) rfl ?_); refine goesL_ (some 74) rfl rfl Try.func21 (by kernel_rfl) rfl #[.agg #[.int .i64 t810, .slice Ao39 t826.length co39], .int .i64 1] rfl (by (try simp only [List.map_toArray, List.map_cons, List.map_nil]); first | done | (rw [show t826.length = t811.length from (Kd.R_reads' HO_816001.out).1.symm] <;> rfl) | rfl | (simp only [List.length_drop, List.length_take]; rfl)) ?_; (with_reducible refine (laws_heldTable.calls kj62 t810 _ _ t826 1 t827 _ ?side1 ?side2 A94.out).mono ?_); (case side1 => exact SR HO_816001); (case side2 => rw [show t826.length = t811.length from (Kd.R_reads' HO_816001.out).1.symm]; exact (Kd.R_reads' HO_816001.out).2.1); rintro e w106 ⟨rfl, hb⟩; refine ⟨_, rfl, ?_⟩; have n0_ := Aside0.mk (Kd.R_below (RD HO_805001) hb); have n1_ := Aside0.mk (Kd.R_below (RD HO_810001) hb); have n2_ := Aside0.mk (Kd.R_below (RD HO_816001) hb); have n3_ := Aside0.mk (blk_below (BD BK793) hb); have n4_ := Aside0.mk (blk_below (BD BK804) hb); have n5_ := Aside0.mk (blk_below (BD BK809) hb); have n6_ := Aside0.mk (blk_below (BD BK815) hb); have n7_ := Aside0.mk (below_step BG hb); clear HO_805001; clear HO_810001; clear HO_816001; clear BK793; clear BK804; clear BK809; clear BK815; clear HB; have HO_805001 := n0_; have HO_810001 := n1_; have HO_816001 := n2_; have BK793 := n3_; have BK804 := n4_; have BK809 := n5_; have BK815 := n6_; have HB := n7_; clear n0_ n1_ n2_ n3_ n4_ n5_ n6_ n7_; (try clear hb); (try clear hb2); (try clear hk); (try clear hi); have hnb107 := NB793_804.out; have hnc107 := NB804_793.out; have hnb108 := NB793_809.out; have hnc108 := NB809_793.out; obtain ⟨hcz109_0, hcz109_1, hfz109_0, hfz109_1⟩ := bk2 BK793.out) | ((with_reducible refine gate_callee (f := 13) rfl ?_); refine goesL_ (some 82) rfl rfl Try.func13 (by kernel_rfl) rfl #[.agg #[.int .i64 a0_0, .slice A0_1 l0_1.length c0_1]] rfl AQ ?_; (with_reducible refine (laws_toTable.calls kj62 a0_0 _ _ l0_1 t828 t829 _ ?side1 ?side2 A97.out).mono ?_); (case side1 => exact SC HR0_1); (case side2 => exact HC0_1.out); rintro e w110 ⟨v830, rfl, ho0, hb⟩; refine ⟨_, rfl, ?_⟩; have n0_ := Aside0.mk (Kd.R_elder' (RD HO_805001) (Kd.R_base ho0) hb); have n1_ := Aside0.mk (Kd.R_elder' (RD HO_810001) (Kd.R_base ho0) hb); have n2_ := Aside0.mk (Kd.R_elder' (RD HO_816001) (Kd.R_base ho0) hb); have n3_ := Aside0.mk (Kd.R_lower (Kd.R_new' (Kd.R_new' (Kd.R_new' ho0 (Kd.R_lt (RD HO_805001))) (Kd.R_lt (RD HO_810001))) (Kd.R_lt (RD HO_816001))) (below_size BG)); have n4_ := Aside0.mk (blk_below (BD BK793) hb); have n5_ := Aside0.mk (blk_below (BD BK804) hb); have n6_ := Aside0.mk (blk_below (BD BK809) hb); have n7_ := Aside0.mk (blk_below (BD BK815) hb); have n8_ := Aside0.mk (below_step BG hb); clear HO_805001; clear HO_810001; clear HO_816001; clear BK793; clear BK804; clear BK809; clear BK815; clear HB; have HO_805001 := n0_; have HO_810001 := n1_; have HO_816001 := n2_; have HO831 := n3_; have BK793 := n4_; have BK804 := n5_; have BK809 := n6_; have BK815 := n7_; have HB := n8_; clear n0_ n1_ n2_ n3_ n4_ n5_ n6_ n7_ n8_; (try clear hb); (try clear hb2); (try clear hk); (try clear hi); (try clear ho0); obtain ⟨Ao111, co111, eo111⟩ := Kd.R_slice HO831.out; subst eo111) | ((with_reducible refine gate_callee (f := 34) rfl ?_); refine goesL_ (some 84) rfl rfl Try.func34 (by kernel_rfl) rfl #[.agg #[.int .i64 t828, .slice Ao111 t829.length co111], .string a1] rfl AQ ?_; (with_reducible refine (impl_Add.calls kj62 t828 _ _ t829 a1 t832 t833 t836 _ ?side1 ?side2 A98.out).mono ?_); (case side1 => exact SR HO831); (case side2 => exact (Kd.R_reads' HO831.out).2.1); rintro e w112 ⟨v834, rfl, ho0, hb⟩; refine ⟨_, rfl, ?_⟩; have n0_ := Aside0.mk (Kd.R_elder' (RD HO_805001) (Kd.R_base ho0) hb); have n1_ := Aside0.mk (Kd.R_elder' (RD HO_810001) (Kd.R_base ho0) hb); have n2_ := Aside0.mk (Kd.R_elder' (RD HO_816001) (Kd.R_base ho0) hb); have n3_ := Aside0.mk (Kd.R_elder' (RD HO831) (Kd.R_base ho0) hb); have n4_ := Aside0.mk (Kd.R_lower (Kd.R_new' (Kd.R_new' (Kd.R_new' (Kd.R_new' ho0 (Kd.R_lt (RD HO_805001))) (Kd.R_lt (RD HO_810001))) (Kd.R_lt (RD HO_816001))) (Kd.R_lt (RD HO831))) (below_size BG)); have n5_ := Aside0.mk (blk_below (BD BK793) hb); have n6_ := Aside0.mk (blk_below (BD BK804) hb); have n7_ := Aside0.mk (blk_below (BD BK809) hb); have n8_ := Aside0.mk (blk_below (BD BK815) hb); have n9_ := Aside0.mk (below_step BG hb); clear HO_805001; clear HO_810001; clear HO_816001; clear HO831; clear BK793; clear BK804; clear BK809; clear BK815; clear HB; have HO_805001 := n0_; have HO_810001 := n1_; have HO_816001 := n2_; have HO831 := n3_; have HO835 := n4_; have BK793 := n5_; have BK804 := n6_; have BK809 := n7_; have BK815 := n8_; have HB := n9_; clear n0_ n1_ n2_ n3_ n4_ n5_ n6_ n7_ n8_ n9_; (try clear hb); (try clear hb2); (try clear hk); (try clear hi); (try clear ho0)) | ((with_reducible refine gate_dst (N := 14) rfl ?_); refine box_event ?hg (N := 14) ?hd (cs := #[.int .i64 0, .slice none 0 0]) (t := 29) ?hr ?_; (case hd => rfl); (case hg => rfl); (case hr => first | (go_simp; done) | (go_simp; rfl)); intro gb837 hg w113 hbox hb; have n0_ := Aside0.mk (Kd.R_below (RD HO_805001) hb); have n1_ := Aside0.mk (Kd.R_below (RD HO_810001) hb); have n2_ := Aside0.mk (Kd.R_below (RD HO_816001) hb); have n3_ := Aside0.mk (Kd.R_below (RD HO831) hb); have n4_ := Aside0.mk (Kd.R_below (RD HO835) hb); have n5_ := Aside0.mk (blk_below (BD BK793) hb); have n6_ := Aside0.mk (blk_below (BD BK804) hb); have n7_ := Aside0.mk (blk_below (BD BK809) hb); have n8_ := Aside0.mk (blk_below (BD BK815) hb); have n9_ := Aside0.mk (below_step BG hb); have n10_ := Aside0.mk (hbox); have n11_ := Aside0.mk ((by rw [hg]; exact (below_size BG) : w.heap.size ≤ gb837)); have n12_ := Aside0.mk ((by rw [hg]; exact (below_size BG) : w.heap.size ≤ gb837)); have n13_ := Aside0.mk ((by rw [hg]; exact Nat.ne_of_lt (blk_lt (BD BK793)) : gb793 ≠ gb837)); have n14_ := Aside0.mk ((by rw [hg]; exact Nat.ne_of_gt (blk_lt (BD BK793)) : gb837 ≠ gb793)); have n15_ := Aside0.mk ((by rw [hg]; exact Nat.ne_of_lt (blk_lt (BD BK804)) : gb804 ≠ gb837)); have n16_ := Aside0.mk ((by rw [hg]; exact Nat.ne_of_gt (blk_lt (BD BK804)) : gb837 ≠ gb804)); have n17_ := Aside0.mk ((by rw [hg]; exact Nat.ne_of_lt (blk_lt (BD BK809)) : gb809 ≠ gb837)); have n18_ := Aside0.mk ((by rw [hg]; exact Nat.ne_of_gt (blk_lt (BD BK809)) : gb837 ≠ gb809)); have n19_ := Aside0.mk ((by rw [hg]; exact Nat.ne_of_lt (blk_lt (BD BK815)) : gb815 ≠ gb837)); have n20_ := Aside0.mk ((by rw [hg]; exact Nat.ne_of_gt (blk_lt (BD BK815)) : gb837 ≠ gb815)); clear HO_805001; clear HO_810001; clear HO_816001; clear HO831; clear HO835; clear BK793; clear BK804; clear BK809; clear BK815; clear HB; have HO_805001 := n0_; have HO_810001 := n1_; have HO_816001 := n2_; have HO831 := n3_; have HO835 := n4_; have BK793 := n5_; have BK804 := n6_; have BK809 := n7_; have BK815 := n8_; have HB := n9_; have BK837 := n10_; have GW837 := n11_; have GE837 := n12_; have NB793_837 := n13_; have NB837_793 := n14_; have NB804_837 := n15_; have NB837_804 := n16_; have NB809_837 := n17_; have NB837_809 := n18_; have NB815_837 := n19_; have NB837_815 := n20_; clear n0_ n1_ n2_ n3_ n4_ n5_ n6_ n7_ n8_ n9_ n10_ n11_ n12_ n13_ n14_ n15_ n16_ n17_ n18_ n19_ n20_; clear hb hbox hg; have hnb114 := NB837_793.out; have hnc114 := NB793_837.out; have hnb115 := NB837_804.out; have hnc115 := NB804_837.out; have hnb116 := NB837_809.out; have hnc116 := NB809_837.out; have hnb117 := NB837_815.out; have hnc117 := NB815_837.out; obtain ⟨hcz118_0, hcz118_1, hfz118_0, hfz118_1⟩ := bk2 BK837.out; obtain ⟨Ao119, co119, eo119⟩ := Kd.R_slice HO835.out; subst eo119))
            (try simp only [Act.put, List.setIfInBounds_toArray, List.set_cons_zero, List.set_cons_succ])
            go_cut [95] (fun v95 wc => ∃ (kq : Nat) (x95_98 : Bool), v95 = .bool x95_98 ∧ Aside0 (laws_FnExactAdd.j2 kq t825 x95_98 t810 t826 = some r) ∧ Aside0 (kq ≤ kj62) ∧ Aside0 (Kd.R k50 50 wc w.heap.size (fun k_ => some k_ ≠ ((.slice Ao32 t823.length co32) : Value).ownBlock ∧ some k_ ≠ ((.slice Ao39 t811.length co39) : Value).ownBlock ∧ some k_ ≠ ((.slice Ao119 t833.length co119) : Value).ownBlock) (.slice Ao25 t800.length co25) t800) ∧ Aside0 (Kd.R k50 50 wc w.heap.size (fun k_ => some k_ ≠ ((.slice Ao25 t800.length co25) : Value).ownBlock ∧ some k_ ≠ ((.slice Ao39 t811.length co39) : Value).ownBlock ∧ some k_ ≠ ((.slice Ao119 t833.length co119) : Value).ownBlock) (.slice Ao32 t823.length co32) t823) ∧ Aside0 (Kd.R k50 50 wc w.heap.size (fun k_ => some k_ ≠ ((.slice Ao25 t800.length co25) : Value).ownBlock ∧ some k_ ≠ ((.slice Ao32 t823.length co32) : Value).ownBlock ∧ some k_ ≠ ((.slice Ao119 t833.length co119) : Value).ownBlock) (.slice Ao39 t811.length co39) t826) ∧ Aside0 (Kd.R k50 50 wc w.heap.size (fun k_ => some k_ ≠ ((.slice Ao25 t800.length co25) : Value).ownBlock ∧ some k_ ≠ ((.slice Ao32 t823.length co32) : Value).ownBlock ∧ some k_ ≠ ((.slice Ao39 t811.length co39) : Value).ownBlock) (.slice Ao119 t833.length co119) t833) ∧ Aside0 (wc.heap[gb793]? = some (.cells #[.int .i64 a0_0, (.slice A0_1 l0_1.length c0_1)] 24 (0, 0))) ∧ Aside0 (wc.heap[gb804]? = some (.cells #[.int .i64 t799, (.slice Ao25 t800.length co25)] 29 (0, 0))) ∧ Aside0 (wc.heap[gb809]? = some (.cells #[.int .i64 t805, (.slice Ao32 t823.length co32)] 29 (0, 0))) ∧ Aside0 (wc.heap[gb815]? = some (.cells #[.int .i64 t810, (.slice Ao39 t811.length co39)] 29 (0, 0))) ∧ Aside0 (wc.heap[gb837]? = some (.cells #[.int .i64 t832, (.slice Ao119 t833.length co119)] 29 (0, 0))) ∧ Aside0 (Below w.heap.size w wc))
            case first =>
             have H := HC99.out
             clear HC99
             replace H := BS H
             obtain ⟨t838, A1200, H⟩ := H
             have A120 := Aside0.mk A1200
             clear A1200
             by_cases c121 : t838 = true
             ·subst c121
              replace H := IP H
              have H' := Aside0.mk H
              clear H
              have hnb122 := NB837_793.out
              have hnc122 := NB793_837.out
              have hnb123 := NB837_804.out
              have hnc123 := NB804_837.out
              have hnb124 := NB837_809.out
              have hnc124 := NB809_837.out
              have hnb125 := NB837_815.out
              have hnc125 := NB815_837.out
              obtain ⟨hcz126_0, hcz126_1, hfz126_0, hfz126_1⟩ := bk2 BK837.out
              have hnb127 := NB804_793.out
              have hnc127 := NB793_804.out
              have hnb128 := NB804_809.out
              have hnc128 := NB809_804.out
              have hnb129 := NB804_815.out
              have hnc129 := NB815_804.out
              obtain ⟨hcz130_0, hcz130_1, hfz130_0, hfz130_1⟩ := bk2 BK804.out
              go_wp2_with (first | ((with_reducible refine gate_callee (f := 15) rfl ?_); refine goesL_ (some 89) rfl rfl Try.func15 (by kernel_rfl) rfl #[.agg #[.int .i64 t832, .slice Ao119 t833.length co119], .agg #[.int .i64 t799, .slice Ao25 t800.length co25]] rfl AQ ?_; (with_reducible refine (laws_eqTable.calls kj62 t832 _ _ t833 t799 _ _ t800 true _ ?side1 ?side2 ?side3 ?side4 A120.out).mono ?_); (case side1 => refine (Kd.R_reads' (e := 50) (base := w.heap.size) (ok := fun k_ => ((((True ∧ some k_ ≠ (.slice Ao25 t800.length co25 : Value).ownBlock) ∧ some k_ ≠ (.slice Ao32 t823.length co32 : Value).ownBlock) ∧ some k_ ≠ (.slice Ao39 t811.length co39 : Value).ownBlock) ∧ some k_ ≠ (.slice Ao111 t829.length co111 : Value).ownBlock)) (n := t833.length) (c := co119) ?_).2.2; exact (by (with_reducible repeat (first | apply Kd.R_alloc | apply Kd.R_drewN | apply Kd.R_drew)); exact (FM (FR (FR (Kd.R_types HO835.out BK837.out (by decide))))))); (case side2 => exact (Kd.R_reads' HO835.out).2.1); (case side3 => refine (Kd.R_reads' (e := 50) (base := w.heap.size) (ok := fun k_ => (((some k_ ≠ (.slice Ao32 t823.length co32 : Value).ownBlock ∧ some k_ ≠ (.slice Ao39 t811.length co39 : Value).ownBlock) ∧ some k_ ≠ (.slice Ao111 t829.length co111 : Value).ownBlock) ∧ some k_ ≠ (.slice Ao119 t833.length co119 : Value).ownBlock)) (n := t800.length) (c := co25) ?_).2.2; exact (by (with_reducible repeat (first | apply Kd.R_alloc | apply Kd.R_drewN | apply Kd.R_drew)); exact (FM (FR (FR (Kd.R_types HO_805001.out BK837.out (by decide))))))); (case side4 => exact (Kd.R_reads' HO_805001.out).2.1); rintro e w131 ⟨rfl, hb⟩; refine ⟨_, rfl, ?_⟩; have n0_ := Aside0.mk (Kd.R_below (by (with_reducible repeat (first | apply Kd.R_alloc | apply Kd.R_drewN | apply Kd.R_drew)); exact (FM (FR (FR (Kd.R_types HO_805001.out BK837.out (by decide)))))) hb); have n1_ := Aside0.mk (Kd.R_below (by (with_reducible repeat (first | apply Kd.R_alloc | apply Kd.R_drewN | apply Kd.R_drew)); exact (FM (FR (FR (Kd.R_types HO_810001.out BK837.out (by decide)))))) hb); have n2_ := Aside0.mk (Kd.R_below (by (with_reducible repeat (first | apply Kd.R_alloc | apply Kd.R_drewN | apply Kd.R_drew)); exact (FM (FR (FR (Kd.R_types HO_816001.out BK837.out (by decide)))))) hb); have n3_ := Aside0.mk (Kd.R_below (by (with_reducible repeat (first | apply Kd.R_alloc | apply Kd.R_drewN | apply Kd.R_drew)); exact (FM (FR (FR (Kd.R_types HO831.out BK837.out (by decide)))))) hb); have n4_ := Aside0.mk (Kd.R_below (by (with_reducible repeat (first | apply Kd.R_alloc | apply Kd.R_drewN | apply Kd.R_drew)); exact (FM (FR (FR (Kd.R_types HO835.out BK837.out (by decide)))))) hb); have n5_ := Aside0.mk (blk_below (g := gb793) (o := .cells #[.int .i64 a0_0, .slice A0_1 l0_1.length c0_1] 24 (0, 0)) (by (with_reducible repeat (first | refine blk_drewN ?_ _ | refine blk_drew ?_ | refine blk_alloc ?_ _)); refine blk_far ?_ NB793_837.out _; (with_reducible repeat (first | refine blk_drewN ?_ _ | refine blk_drew ?_ | refine blk_alloc ?_ _)); refine blk_far ?_ NB793_837.out _; (with_reducible repeat (first | refine blk_drewN ?_ _ | refine blk_drew ?_ | refine blk_alloc ?_ _)); exact BK793.out) hb); have n6_ := Aside0.mk (blk_below (g := gb804) (o := .cells #[.int .i64 t799, .slice Ao25 t800.length co25] 29 (0, 0)) (by (with_reducible repeat (first | refine blk_drewN ?_ _ | refine blk_drew ?_ | refine blk_alloc ?_ _)); refine blk_far ?_ NB804_837.out _; (with_reducible repeat (first | refine blk_drewN ?_ _ | refine blk_drew ?_ | refine blk_alloc ?_ _)); refine blk_far ?_ NB804_837.out _; (with_reducible repeat (first | refine blk_drewN ?_ _ | refine blk_drew ?_ | refine blk_alloc ?_ _)); exact BK804.out) hb); have n7_ := Aside0.mk (blk_below (g := gb809) (o := .cells #[.int .i64 t805, .slice Ao32 t823.length co32] 29 (0, 0)) (by (with_reducible repeat (first | refine blk_drewN ?_ _ | refine blk_drew ?_ | refine blk_alloc ?_ _)); refine blk_far ?_ NB809_837.out _; (with_reducible repeat (first | refine blk_drewN ?_ _ | refine blk_drew ?_ | refine blk_alloc ?_ _)); refine blk_far ?_ NB809_837.out _; (with_reducible repeat (first | refine blk_drewN ?_ _ | refine blk_drew ?_ | refine blk_alloc ?_ _)); exact BK809.out) hb); have n8_ := Aside0.mk (blk_below (g := gb815) (o := .cells #[.int .i64 t810, .slice Ao39 t811.length co39] 29 (0, 0)) (by (with_reducible repeat (first | refine blk_drewN ?_ _ | refine blk_drew ?_ | refine blk_alloc ?_ _)); refine blk_far ?_ NB815_837.out _; (with_reducible repeat (first | refine blk_drewN ?_ _ | refine blk_drew ?_ | refine blk_alloc ?_ _)); refine blk_far ?_ NB815_837.out _; (with_reducible repeat (first | refine blk_drewN ?_ _ | refine blk_drew ?_ | refine blk_alloc ?_ _)); exact BK815.out) hb); have n9_ := Aside0.mk (blk_below (g := gb837) (o := .cells #[.int .i64 t832, .slice Ao119 t833.length co119] 29 (0, 0)) (by (with_reducible repeat (first | refine blk_drewN ?_ _ | refine blk_drew ?_ | refine blk_alloc ?_ _)); refine blk_put (cs := #[.int .i64 t832, .slice none 0 0]) ?_ 1 _ rfl; (with_reducible repeat (first | refine blk_drewN ?_ _ | refine blk_drew ?_ | refine blk_alloc ?_ _)); refine blk_put (cs := #[.int .i64 0, .slice none 0 0]) ?_ 0 _ rfl; (with_reducible repeat (first | refine blk_drewN ?_ _ | refine blk_drew ?_ | refine blk_alloc ?_ _)); exact BK837.out) hb); have n10_ := Aside0.mk (below_step BG hb); clear HO_805001; clear HO_810001; clear HO_816001; clear HO831; clear HO835; clear BK793; clear BK804; clear BK809; clear BK815; clear BK837; clear HB; have HO_805001 := n0_; have HO_810001 := n1_; have HO_816001 := n2_; have HO831 := n3_; have HO835 := n4_; have BK793 := n5_; have BK804 := n6_; have BK809 := n7_; have BK815 := n8_; have BK837 := n9_; have HB := n10_; clear n0_ n1_ n2_ n3_ n4_ n5_ n6_ n7_ n8_ n9_ n10_; (try clear hb); (try clear hb2); (try clear hk); (try clear hi)))
              go_meet
              case rel => exact ⟨_, ((t836 != t803)), RS, H', ⟨by have := HJ13.out; have := HJ62.out; first | omega | exact Nat.le_refl _⟩, ⟨by (try simp only [hl810001_62]); (with_reducible repeat (first | apply Kd.R_alloc | apply Kd.R_drewN | apply Kd.R_drew)); exact Kd.R_mono HO_805001.out (fun _ hk => ⟨hk.1.1.1, ⟨hk.1.1.2, hk.2⟩⟩)⟩, ⟨by (try simp only [hl810001_62]); (with_reducible repeat (first | apply Kd.R_alloc | apply Kd.R_drewN | apply Kd.R_drew)); exact Kd.R_mono HO_810001.out (fun _ hk => ⟨hk.1.1.1, ⟨hk.1.1.2, hk.2⟩⟩)⟩, ⟨by (try simp only [hl810001_62]); (with_reducible repeat (first | apply Kd.R_alloc | apply Kd.R_drewN | apply Kd.R_drew)); exact Kd.R_mono HO_816001.out (fun _ hk => ⟨hk.1.1.1, ⟨hk.1.1.2, hk.2⟩⟩)⟩, ⟨by (try simp only [hl810001_62]); (with_reducible repeat (first | apply Kd.R_alloc | apply Kd.R_drewN | apply Kd.R_drew)); exact Kd.R_mono HO835.out (fun _ hk => ⟨hk.1.1.1.2, ⟨hk.1.1.2, hk.1.2⟩⟩)⟩, ⟨by (try simp only [hl810001_62]); (with_reducible repeat (first | refine blk_drewN ?_ _ | refine blk_drew ?_ | refine blk_alloc ?_ _)); exact BK793.out⟩, ⟨by (try simp only [hl810001_62]); (with_reducible repeat (first | refine blk_drewN ?_ _ | refine blk_drew ?_ | refine blk_alloc ?_ _)); exact BK804.out⟩, ⟨by (try simp only [hl810001_62]); (with_reducible repeat (first | refine blk_drewN ?_ _ | refine blk_drew ?_ | refine blk_alloc ?_ _)); exact BK809.out⟩, ⟨by (try simp only [hl810001_62]); (with_reducible repeat (first | refine blk_drewN ?_ _ | refine blk_drew ?_ | refine blk_alloc ?_ _)); exact BK815.out⟩, ⟨by (try simp only [hl810001_62]); (with_reducible repeat (first | refine blk_drewN ?_ _ | refine blk_drew ?_ | refine blk_alloc ?_ _)); exact BK837.out⟩, ⟨by repeat (first | (with_reducible first | exact HB.out | apply below_alloc | apply pw_below_drewN | apply below_drew1 | refine below_set ?_ GE793.out | refine below_set ?_ GE804.out | refine below_set ?_ GE809.out | refine below_set ?_ GE815.out | refine below_set ?_ GE837.out) | exact HB.out)⟩⟩
             ·replace c121 := Bool.eq_false_iff.mpr c121
              subst c121
              replace H := IN H
              have H' := Aside0.mk H
              clear H
              have hnb132 := NB837_793.out
              have hnc132 := NB793_837.out
              have hnb133 := NB837_804.out
              have hnc133 := NB804_837.out
              have hnb134 := NB837_809.out
              have hnc134 := NB809_837.out
              have hnb135 := NB837_815.out
              have hnc135 := NB815_837.out
              obtain ⟨hcz136_0, hcz136_1, hfz136_0, hfz136_1⟩ := bk2 BK837.out
              have hnb137 := NB804_793.out
              have hnc137 := NB793_804.out
              have hnb138 := NB804_809.out
              have hnc138 := NB809_804.out
              have hnb139 := NB804_815.out
              have hnc139 := NB815_804.out
              obtain ⟨hcz140_0, hcz140_1, hfz140_0, hfz140_1⟩ := bk2 BK804.out
              go_wp2_with (first | ((with_reducible refine gate_callee (f := 15) rfl ?_); refine goesL_ (some 89) rfl rfl Try.func15 (by kernel_rfl) rfl #[.agg #[.int .i64 t832, .slice Ao119 t833.length co119], .agg #[.int .i64 t799, .slice Ao25 t800.length co25]] rfl AQ ?_; (with_reducible refine (laws_eqTable.calls kj62 t832 _ _ t833 t799 _ _ t800 false _ ?side1 ?side2 ?side3 ?side4 A120.out).mono ?_); (case side1 => refine (Kd.R_reads' (e := 50) (base := w.heap.size) (ok := fun k_ => ((((True ∧ some k_ ≠ (.slice Ao25 t800.length co25 : Value).ownBlock) ∧ some k_ ≠ (.slice Ao32 t823.length co32 : Value).ownBlock) ∧ some k_ ≠ (.slice Ao39 t811.length co39 : Value).ownBlock) ∧ some k_ ≠ (.slice Ao111 t829.length co111 : Value).ownBlock)) (n := t833.length) (c := co119) ?_).2.2; exact (by (with_reducible repeat (first | apply Kd.R_alloc | apply Kd.R_drewN | apply Kd.R_drew)); exact (FM (FR (FR (Kd.R_types HO835.out BK837.out (by decide))))))); (case side2 => exact (Kd.R_reads' HO835.out).2.1); (case side3 => refine (Kd.R_reads' (e := 50) (base := w.heap.size) (ok := fun k_ => (((some k_ ≠ (.slice Ao32 t823.length co32 : Value).ownBlock ∧ some k_ ≠ (.slice Ao39 t811.length co39 : Value).ownBlock) ∧ some k_ ≠ (.slice Ao111 t829.length co111 : Value).ownBlock) ∧ some k_ ≠ (.slice Ao119 t833.length co119 : Value).ownBlock)) (n := t800.length) (c := co25) ?_).2.2; exact (by (with_reducible repeat (first | apply Kd.R_alloc | apply Kd.R_drewN | apply Kd.R_drew)); exact (FM (FR (FR (Kd.R_types HO_805001.out BK837.out (by decide))))))); (case side4 => exact (Kd.R_reads' HO_805001.out).2.1); rintro e w141 ⟨rfl, hb⟩; refine ⟨_, rfl, ?_⟩; have n0_ := Aside0.mk (Kd.R_below (by (with_reducible repeat (first | apply Kd.R_alloc | apply Kd.R_drewN | apply Kd.R_drew)); exact (FM (FR (FR (Kd.R_types HO_805001.out BK837.out (by decide)))))) hb); have n1_ := Aside0.mk (Kd.R_below (by (with_reducible repeat (first | apply Kd.R_alloc | apply Kd.R_drewN | apply Kd.R_drew)); exact (FM (FR (FR (Kd.R_types HO_810001.out BK837.out (by decide)))))) hb); have n2_ := Aside0.mk (Kd.R_below (by (with_reducible repeat (first | apply Kd.R_alloc | apply Kd.R_drewN | apply Kd.R_drew)); exact (FM (FR (FR (Kd.R_types HO_816001.out BK837.out (by decide)))))) hb); have n3_ := Aside0.mk (Kd.R_below (by (with_reducible repeat (first | apply Kd.R_alloc | apply Kd.R_drewN | apply Kd.R_drew)); exact (FM (FR (FR (Kd.R_types HO831.out BK837.out (by decide)))))) hb); have n4_ := Aside0.mk (Kd.R_below (by (with_reducible repeat (first | apply Kd.R_alloc | apply Kd.R_drewN | apply Kd.R_drew)); exact (FM (FR (FR (Kd.R_types HO835.out BK837.out (by decide)))))) hb); have n5_ := Aside0.mk (blk_below (g := gb793) (o := .cells #[.int .i64 a0_0, .slice A0_1 l0_1.length c0_1] 24 (0, 0)) (by (with_reducible repeat (first | refine blk_drewN ?_ _ | refine blk_drew ?_ | refine blk_alloc ?_ _)); refine blk_far ?_ NB793_837.out _; (with_reducible repeat (first | refine blk_drewN ?_ _ | refine blk_drew ?_ | refine blk_alloc ?_ _)); refine blk_far ?_ NB793_837.out _; (with_reducible repeat (first | refine blk_drewN ?_ _ | refine blk_drew ?_ | refine blk_alloc ?_ _)); exact BK793.out) hb); have n6_ := Aside0.mk (blk_below (g := gb804) (o := .cells #[.int .i64 t799, .slice Ao25 t800.length co25] 29 (0, 0)) (by (with_reducible repeat (first | refine blk_drewN ?_ _ | refine blk_drew ?_ | refine blk_alloc ?_ _)); refine blk_far ?_ NB804_837.out _; (with_reducible repeat (first | refine blk_drewN ?_ _ | refine blk_drew ?_ | refine blk_alloc ?_ _)); refine blk_far ?_ NB804_837.out _; (with_reducible repeat (first | refine blk_drewN ?_ _ | refine blk_drew ?_ | refine blk_alloc ?_ _)); exact BK804.out) hb); have n7_ := Aside0.mk (blk_below (g := gb809) (o := .cells #[.int .i64 t805, .slice Ao32 t823.length co32] 29 (0, 0)) (by (with_reducible repeat (first | refine blk_drewN ?_ _ | refine blk_drew ?_ | refine blk_alloc ?_ _)); refine blk_far ?_ NB809_837.out _; (with_reducible repeat (first | refine blk_drewN ?_ _ | refine blk_drew ?_ | refine blk_alloc ?_ _)); refine blk_far ?_ NB809_837.out _; (with_reducible repeat (first | refine blk_drewN ?_ _ | refine blk_drew ?_ | refine blk_alloc ?_ _)); exact BK809.out) hb); have n8_ := Aside0.mk (blk_below (g := gb815) (o := .cells #[.int .i64 t810, .slice Ao39 t811.length co39] 29 (0, 0)) (by (with_reducible repeat (first | refine blk_drewN ?_ _ | refine blk_drew ?_ | refine blk_alloc ?_ _)); refine blk_far ?_ NB815_837.out _; (with_reducible repeat (first | refine blk_drewN ?_ _ | refine blk_drew ?_ | refine blk_alloc ?_ _)); refine blk_far ?_ NB815_837.out _; (with_reducible repeat (first | refine blk_drewN ?_ _ | refine blk_drew ?_ | refine blk_alloc ?_ _)); exact BK815.out) hb); have n9_ := Aside0.mk (blk_below (g := gb837) (o := .cells #[.int .i64 t832, .slice Ao119 t833.length co119] 29 (0, 0)) (by (with_reducible repeat (first | refine blk_drewN ?_ _ | refine blk_drew ?_ | refine blk_alloc ?_ _)); refine blk_put (cs := #[.int .i64 t832, .slice none 0 0]) ?_ 1 _ rfl; (with_reducible repeat (first | refine blk_drewN ?_ _ | refine blk_drew ?_ | refine blk_alloc ?_ _)); refine blk_put (cs := #[.int .i64 0, .slice none 0 0]) ?_ 0 _ rfl; (with_reducible repeat (first | refine blk_drewN ?_ _ | refine blk_drew ?_ | refine blk_alloc ?_ _)); exact BK837.out) hb); have n10_ := Aside0.mk (below_step BG hb); clear HO_805001; clear HO_810001; clear HO_816001; clear HO831; clear HO835; clear BK793; clear BK804; clear BK809; clear BK815; clear BK837; clear HB; have HO_805001 := n0_; have HO_810001 := n1_; have HO_816001 := n2_; have HO831 := n3_; have HO835 := n4_; have BK793 := n5_; have BK804 := n6_; have BK809 := n7_; have BK815 := n8_; have BK837 := n9_; have HB := n10_; clear n0_ n1_ n2_ n3_ n4_ n5_ n6_ n7_ n8_ n9_ n10_; (try clear hb); (try clear hb2); (try clear hk); (try clear hi)))
              go_meet
              case rel => exact ⟨_, (true), RS, H', ⟨by have := HJ13.out; have := HJ62.out; first | omega | exact Nat.le_refl _⟩, ⟨by (try simp only [hl810001_62]); (with_reducible repeat (first | apply Kd.R_alloc | apply Kd.R_drewN | apply Kd.R_drew)); exact Kd.R_mono HO_805001.out (fun _ hk => ⟨hk.1.1.1, ⟨hk.1.1.2, hk.2⟩⟩)⟩, ⟨by (try simp only [hl810001_62]); (with_reducible repeat (first | apply Kd.R_alloc | apply Kd.R_drewN | apply Kd.R_drew)); exact Kd.R_mono HO_810001.out (fun _ hk => ⟨hk.1.1.1, ⟨hk.1.1.2, hk.2⟩⟩)⟩, ⟨by (try simp only [hl810001_62]); (with_reducible repeat (first | apply Kd.R_alloc | apply Kd.R_drewN | apply Kd.R_drew)); exact Kd.R_mono HO_816001.out (fun _ hk => ⟨hk.1.1.1, ⟨hk.1.1.2, hk.2⟩⟩)⟩, ⟨by (try simp only [hl810001_62]); (with_reducible repeat (first | apply Kd.R_alloc | apply Kd.R_drewN | apply Kd.R_drew)); exact Kd.R_mono HO835.out (fun _ hk => ⟨hk.1.1.1.2, ⟨hk.1.1.2, hk.1.2⟩⟩)⟩, ⟨by (try simp only [hl810001_62]); (with_reducible repeat (first | refine blk_drewN ?_ _ | refine blk_drew ?_ | refine blk_alloc ?_ _)); exact BK793.out⟩, ⟨by (try simp only [hl810001_62]); (with_reducible repeat (first | refine blk_drewN ?_ _ | refine blk_drew ?_ | refine blk_alloc ?_ _)); exact BK804.out⟩, ⟨by (try simp only [hl810001_62]); (with_reducible repeat (first | refine blk_drewN ?_ _ | refine blk_drew ?_ | refine blk_alloc ?_ _)); exact BK809.out⟩, ⟨by (try simp only [hl810001_62]); (with_reducible repeat (first | refine blk_drewN ?_ _ | refine blk_drew ?_ | refine blk_alloc ?_ _)); exact BK815.out⟩, ⟨by (try simp only [hl810001_62]); (with_reducible repeat (first | refine blk_drewN ?_ _ | refine blk_drew ?_ | refine blk_alloc ?_ _)); exact BK837.out⟩, ⟨by repeat (first | (with_reducible first | exact HB.out | apply below_alloc | apply pw_below_drewN | apply below_drew1 | refine below_set ?_ GE793.out | refine below_set ?_ GE804.out | refine below_set ?_ GE809.out | refine below_set ?_ GE815.out | refine below_set ?_ GE837.out) | exact HB.out)⟩⟩
            case rest =>
             clear HC99
             try clear c1
             try clear c2
             try clear p2
             try clear c3
             try clear c3b0
             try clear c3b1
             try clear c4
             try clear c5
             try clear c6
             try clear c6b0
             try clear c7
             try clear c8
             try clear c9
             try clear c10
             try clear c11
             try clear c12
             try clear c13
             try clear c15
             try clear c20
             try clear c21
             try clear c23
             try clear c29
             try clear c30
             try clear c33
             try clear c34
             try clear c35
             try clear c36
             try clear c37
             try clear c41
             try clear c42
             try clear c43
             try clear c44
             try clear c46
             try clear c47
             try clear c50
             try clear c51
             try clear c52
             try clear c54
             try clear c55
             try clear c58
             try clear c61
             try clear c68
             try clear c69
             try clear c70
             try clear c73
             try clear c73b0
             try clear c75
             try clear c76
             try clear c77
             try clear c78
             try clear c80
             try clear c81
             try clear c84
             try clear c85
             try clear c86
             try clear c88
             try clear c89
             try clear c92
             try clear c95
             try clear c95b0
             try clear c96
             try clear c96b0
             try clear c96b1
             try clear c100
             try clear c101
             try clear c102
             try clear c107
             try clear c108
             try clear c114
             try clear c115
             try clear c116
             try clear c117
             try clear c121
             try clear c122
             try clear c123
             try clear c124
             try clear c125
             try clear c127
             try clear c128
             try clear c129
             try clear c132
             try clear c133
             try clear c134
             try clear c135
             try clear c137
             try clear c138
             try clear c139
             try clear hcz103_0
             try clear hcz103_1
             try clear hcz105_0
             try clear hcz105_1
             try clear hcz109_0
             try clear hcz109_1
             try clear hcz118_0
             try clear hcz118_1
             try clear hcz126_0
             try clear hcz126_1
             try clear hcz130_0
             try clear hcz130_1
             try clear hcz136_0
             try clear hcz136_1
             try clear hcz140_0
             try clear hcz140_1
             try clear hcz16_0
             try clear hcz16_1
             try clear hcz18_0
             try clear hcz18_1
             try clear hcz24_0
             try clear hcz24_1
             try clear hcz26_0
             try clear hcz26_1
             try clear hcz31_0
             try clear hcz31_1
             try clear hcz38_0
             try clear hcz38_1
             try clear hcz45_0
             try clear hcz45_1
             try clear hcz48_0
             try clear hcz48_1
             try clear hcz53_0
             try clear hcz53_1
             try clear hcz56_0
             try clear hcz56_1
             try clear hcz71_0
             try clear hcz71_1
             try clear hcz79_0
             try clear hcz79_1
             try clear hcz82_0
             try clear hcz82_1
             try clear hcz87_0
             try clear hcz87_1
             try clear hcz8_0
             try clear hcz8_1
             try clear hcz90_0
             try clear hcz90_1
             try clear hfz103_0
             try clear hfz103_1
             try clear hfz105_0
             try clear hfz105_1
             try clear hfz109_0
             try clear hfz109_1
             try clear hfz118_0
             try clear hfz118_1
             try clear hfz126_0
             try clear hfz126_1
             try clear hfz130_0
             try clear hfz130_1
             try clear hfz136_0
             try clear hfz136_1
             try clear hfz140_0
             try clear hfz140_1
             try clear hfz16_0
             try clear hfz16_1
             try clear hfz18_0
             try clear hfz18_1
             try clear hfz24_0
             try clear hfz24_1
             try clear hfz26_0
             try clear hfz26_1
             try clear hfz31_0
             try clear hfz31_1
             try clear hfz38_0
             try clear hfz38_1
             try clear hfz45_0
             try clear hfz45_1
             try clear hfz48_0
             try clear hfz48_1
             try clear hfz53_0
             try clear hfz53_1
             try clear hfz56_0
             try clear hfz56_1
             try clear hfz71_0
             try clear hfz71_1
             try clear hfz79_0
             try clear hfz79_1
             try clear hfz82_0
             try clear hfz82_1
             try clear hfz87_0
             try clear hfz87_1
             try clear hfz8_0
             try clear hfz8_1
             try clear hfz90_0
             try clear hfz90_1
             try clear p2
             obtain ⟨kq, x95_98, rfl, HA, HJ98, HO_805001, HO_810001, HO_816001, HO_838001, BK793, BK804, BK809, BK815, BK837, HB⟩ := hcut
             have hl816001_98 := (Kd.R_reads' HO_816001.out).1
             rw [hl816001_98] at HO_816001
             (try simp only [hl816001_98])
             (try simp only [hl816001_98] at BK793)
             (try simp only [hl816001_98] at BK804)
             (try simp only [hl816001_98] at BK809)
             (try simp only [hl816001_98] at BK815)
             (try simp only [hl816001_98] at BK837)
             (try simp only [hl816001_98] at HO_805001)
             (try simp only [hl816001_98] at HO_810001)
             (try simp only [hl816001_98] at HO_838001)
             cases kq with
             | zero => exact absurd HA.out (by simp [laws_FnExactAdd.j2])
             | succ kj98 =>
              have H := HA.out
              clear HA
              simp only [laws_FnExactAdd.j2] at H
              by_cases c142 : x95_98 = true
              ·subst c142
               replace H := IP H
               exact absurd H (by simp)
              ·replace c142 := Bool.eq_false_iff.mpr c142
               subst c142
               replace H := IN H
               replace H := BS H
               obtain ⟨t839, A1430, H⟩ := H
               have A143 := Aside0.mk A1430
               clear A1430
               by_cases c144 : t839 < 0
               ·rw [if_pos c144] at H
                exact absurd H (by simp)
               ·rw [if_neg c144] at H
                have c144b0 : decide (t839 < 0) = false := decide_eq_false c144
                clear c144
                by_cases c145 : t839 = t825
                ·rw [if_pos c145] at H
                 have c145b0 : (t839 == t825) = true := beq_iff_eq.mpr c145
                 have c145b1 : (t839 != t825) = false := bne_eq_false_iff_eq.mpr c145
                 clear c145
                 obtain rfl := Option.some.inj H
                 have hnb146 := NB815_793.out
                 have hnc146 := NB793_815.out
                 have hnb147 := NB815_804.out
                 have hnc147 := NB804_815.out
                 have hnb148 := NB815_809.out
                 have hnc148 := NB809_815.out
                 have hnb149 := NB815_837.out
                 have hnc149 := NB837_815.out
                 obtain ⟨hcz150_0, hcz150_1, hfz150_0, hfz150_1⟩ := bk2 BK815.out
                 go_wp2_with (first | ((with_reducible refine gate_callee (f := 21) rfl ?_); refine goesL_ (some 98) rfl rfl Try.func21 (by kernel_rfl) rfl #[.agg #[.int .i64 t810, .slice Ao39 t826.length co39], .int .i64 1] rfl AQ ?_; (with_reducible refine (laws_heldTable.calls kj98 t810 _ _ t826 1 t839 _ ?side1 ?side2 A143.out).mono ?_); (case side1 => exact SR HO_816001); (case side2 => exact (Kd.R_reads' HO_816001.out).2.1); rintro e w151 ⟨rfl, hb⟩; refine ⟨_, rfl, ?_⟩; have n0_ := Aside0.mk (Kd.R_below (RD HO_805001) hb); have n1_ := Aside0.mk (Kd.R_below (RD HO_810001) hb); have n2_ := Aside0.mk (Kd.R_below (RD HO_816001) hb); have n3_ := Aside0.mk (Kd.R_below (RD HO_838001) hb); have n4_ := Aside0.mk (blk_below (BD BK793) hb); have n5_ := Aside0.mk (blk_below (BD BK804) hb); have n6_ := Aside0.mk (blk_below (BD BK809) hb); have n7_ := Aside0.mk (blk_below (BD BK815) hb); have n8_ := Aside0.mk (blk_below (BD BK837) hb); have n9_ := Aside0.mk (below_step BG hb); clear HO_805001; clear HO_810001; clear HO_816001; clear HO_838001; clear BK793; clear BK804; clear BK809; clear BK815; clear BK837; clear HB; have HO_805001 := n0_; have HO_810001 := n1_; have HO_816001 := n2_; have HO_838001 := n3_; have BK793 := n4_; have BK804 := n5_; have BK809 := n6_; have BK815 := n7_; have BK837 := n8_; have HB := n9_; clear n0_ n1_ n2_ n3_ n4_ n5_ n6_ n7_ n8_ n9_; (try clear hb); (try clear hb2); (try clear hk); (try clear hi)))
                 go_ret
                 exact ⟨by first | rfl | (simp [errW_none, errW_some] <;> rfl) | (simp [*, errW_none, errW_some] <;> rfl), BG⟩
                ·rw [if_neg c145] at H
                 exact absurd H (by simp)
           ·rw [if_neg c96] at H
            exact absurd H (by simp)
      ·replace c61 := Bool.eq_false_iff.mpr c61
       subst c61
       replace H := IN H
       exact absurd H (by simp)
def spec_Has.f (k : Nat) (a0_0 : Int) (l0_1 : List (S50)) (a1 : ByteArray) : Option (Bool) := (spec_TableOk.f k a0_0 l0_1).bind fun t242 => (if t242 = true then (if a1.toList = ([] : List UInt8) then (some false) else ((spec_l19Key.f k a1).bind fun bt243 => ((spec_l19At.f k a0_0 l0_1 bt243.1 bt243.2).bind fun t245 => (some (decide (t245 ≥ 0)))))) else (some false))
theorem spec_Has.mono : ∀ a0 a1 a2 k, LeO (spec_Has.f k a0 a1 a2) (spec_Has.f (k + 1) a0 a1 a2) := by
 intro a0 a1 a2 k
 unfold spec_Has.f
 repeat' first | (with_reducible first | exact spec_TableOk.mono _ _ _ | exact spec_l19At.mono _ _ _ _ _ | exact spec_l19Key.mono _ _ | exact LeO.refl _ | exact LeO.none _ | refine LeO.ite ?_ ?_ | refine LeO.bind ?_ (fun _ => ?_)) | exact spec_TableOk.mono _ _ _ | exact spec_l19At.mono _ _ _ _ _ | exact spec_l19Key.mono _ _ | exact LeO.none _ | refine LeO.ite ?_ ?_ | refine LeO.bind ?_ (fun _ => ?_)
def spec_Has.T1 : Bool × List (List Nat × List Nat) := (true, [([], []), ([0], [0]), ([1, 1], [1]), ([2], [2]), ([3, 2], [2, 3]), ([2, 4], [2, 4]), ([5, 2], [5]), ([6], [6]), ([6], [6]), ([8, 6, 6], [6, 8]), ([7, 9, 9, 6], [6, 7, 9]), ([10, 6], [6, 10]), ([6, 11], [6, 11]), ([12, 10, 0, 1, 2, 3, 4, 5, 6, 7, 8, 9, 10, 11, 12], [12])])
def spec_Has.B1 : List Nat := [0, 1, 3, 7, 15, 31, 63, 127, 127, 383, 1023, 2047, 4095, 8191]
theorem spec_Has.tab1 : rtab .any (opsOf Try.f16 1) = spec_Has.T1 := by kernel_rfl
theorem spec_Has.bits1 : waitsOk spec_Has.T1.2 spec_Has.B1 = true := by kernel_rfl
set_option maxHeartbeats 8000000 in
set_option maxRecDepth 100000 in
theorem spec_Has.calls (k : Nat) (a0_0 : Int) (A0_1 : Option Addr) (c0_1 : Nat) (l0_1 : List (S50)) (a1 : ByteArray) (r : Bool) (w : World) (hr0_1 : Kd.C k50 w A0_1 l0_1.length l0_1) (hc0_1 : l0_1.length ≤ c0_1) (h : spec_Has.f k a0_0 l0_1 a1 = some r) :
  Calls Try.prog 16 #[.agg #[.int .i64 a0_0, .slice A0_1 l0_1.length c0_1], .string a1] w fun e w' => e = .returned (.bool r) ∧ Below w.heap.size w w' := by
 have hu29 := Try.underlying29
 have HR0_1 := Aside0.mk hr0_1
 have HC0_1 := Aside0.mk hc0_1
 clear hr0_1 hc0_1
 have HB := Aside0.mk (Below.refl w.heap.size w)
 have H : ((spec_TableOk.f k a0_0 l0_1).bind fun t242 => (if t242 = true then (if a1.toList = ([] : List UInt8) then (some false) else ((spec_l19Key.f k a1).bind fun bt243 => ((spec_l19At.f k a0_0 l0_1 bt243.1 bt243.2).bind fun t245 => (some (decide (t245 ≥ 0)))))) else (some false))) = some r := h
 clear h
 replace H := BS H
 obtain ⟨t242, A30, H⟩ := H
 have A3 := Aside0.mk A30
 clear A30
 by_cases c4 : t242 = true
 ·subst c4
  replace H := IP H
  by_cases c5 : a1.toList = ([] : List UInt8)
  ·rw [if_pos c5] at H
   have c5b0 : (a1.toList == ([] : List UInt8)) = true := beq_iff_eq.mpr c5
   have c5b1 : (a1.toList != ([] : List UInt8)) = false := bne_eq_false_iff_eq.mpr c5
   clear c5
   obtain rfl := Option.some.inj H
   go_enter Try.func16, Try.ntmps16
   try go_wp2_with (first | ((with_reducible refine gate_dst (N := 2) rfl ?_); refine box_event ?hg (N := 2) ?hd (cs := #[.int .i64 a0_0, .slice A0_1 l0_1.length c0_1]) (t := 29) ?hr ?_; (case hd => rfl); (case hg => rfl); (case hr => first | (go_simp; done) | (go_simp; rfl)); intro gb241 hg w6 hbox hb; have n0_ := Aside0.mk (below_step BL hb); have n1_ := Aside0.mk (hbox); have n2_ := Aside0.mk ((by rw [hg]; exact (below_size BL) : w.heap.size ≤ gb241)); have n3_ := Aside0.mk ((by rw [hg]; exact (below_size BL) : w.heap.size ≤ gb241)); clear HB; have HB := n0_; have BK241 := n1_; have GW241 := n2_; have GE241 := n3_; clear n0_ n1_ n2_ n3_; clear hb hbox hg))
   have n0_ := Aside0.mk (blk_drew BK241.out)
   have n1_ := Aside0.mk (below_drew1 HB.out)
   clear BK241
   clear HB
   have BK241 := n0_
   have HB := n1_
   clear n0_ n1_
   refine start_ (n := 14) (S := fun w' => w'.cell? ⟨gb241, 0, none⟩ = some (.int .i64 a0_0) ∧ w'.cell? ⟨gb241, 1, none⟩ = some (.slice A0_1 l0_1.length c0_1)) (ds := []) #[false, false, false, false, false, false, false, false, false, false, false, false, false, false] (by kernel_rfl) rfl rfl ⟨(blk_cell BK241.out 0).trans rfl, (blk_cell BK241.out 1).trans rfl⟩ (fun hHeld => ?_); refine with_tabW spec_Has.tab1 spec_Has.bits1 (fun HT_ HW_ => ?_)
   generalize w6.drew = w7 at BK241 HB hHeld ⊢
   refine PT (i := 0) (N := some 5) (tf 1 13) rfl rfl HT_ HW_ hHeld ?_
   refine one_ (i := 1) (N := some 6) (tf 2 12) rfl rfl (one_of HT_.out (by kernel_rfl)) (by decide) (fun K hK => ?_)
   refine goes_ Try.func12 (by kernel_rfl) rfl #[.agg #[.int .i64 a0_0, .slice A0_1 l0_1.length c0_1]] (by rfl) rfl rfl AQ ?_
   with_reducible refine (spec_TableOk.calls k a0_0 _ _ l0_1 true _ ?side1 ?side2 A3.out).mono ?_
   (case side1 => exact SC HR0_1)
   (case side2 => exact HC0_1.out)
   rintro e w8 ⟨rfl, hb⟩
   refine ⟨_, rfl, ?_⟩
   have n0_ := Aside0.mk (blk_below (BD BK241) hb)
   have n1_ := Aside0.mk (below_step BG hb)
   clear BK241
   clear HB
   have BK241 := n0_
   have HB := n1_
   clear n0_ n1_
   (try clear hb)
   (try clear hb2)
   (try clear hk)
   (try clear hi)
   refine hK.out _ _ ⟨(blk_cell BK241.out 0).trans rfl, (blk_cell BK241.out 1).trans rfl⟩ (fun hHeld => ?_)
   clear hK K
   refine NM (some 6) ?_
   refine PU (i := 2) (N := some 7) (tf 3 11) rfl rfl HT_ ?_
   refine PU (i := 3) (N := some 8) (tf 4 10) rfl rfl HT_ ?_
   refine PU (i := 4) (N := some 9) (tf 5 9) rfl rfl HT_ ?_
   refine PU (i := 5) (N := some 10) (tf 6 8) rfl rfl HT_ ?_
   refine PU (i := 6) (N := some 11) (tf 7 7) rfl rfl HT_ ?_
   refine PN (i := 7) (N := some 12) (tf 8 6) rfl rfl HT_ ?_
   refine PN (i := 8) (N := some 13) (tf 9 5) rfl rfl HT_ ?_
   refine PN (i := 9) (N := some 14) (tf 10 4) rfl rfl HT_ ?_
   refine PN (i := 10) (N := some 15) (tf 11 3) rfl rfl HT_ ?_
   refine PN (i := 11) (N := some 16) (tf 12 2) rfl rfl HT_ ?_
   refine PU (i := 12) (N := some 17) (tf 13 1) rfl rfl HT_ ?_
   refine PU (i := 13) (N := some 4) (tf 14 0) rfl rfl HT_ ?_
   refine done_ (done_of HT_.out (by kernel_rfl)) ?_
   try go_wp2
   go_ret
   exact ⟨by first | rfl | (simp [errW_none, errW_some] <;> rfl) | (simp [*, errW_none, errW_some] <;> rfl), BG⟩
  ·rw [if_neg c5] at H
   have c5b0 : (a1.toList == ([] : List UInt8)) = false := beq_eq_false_iff_ne.mpr c5
   have c5b1 : (a1.toList != ([] : List UInt8)) = true := bne_iff_ne.mpr c5
   replace H := BS H
   obtain ⟨⟨t243, t244⟩, A90, H⟩ := H
   have A9 := Aside0.mk A90
   clear A90
   replace H := BS H
   obtain ⟨t245, A100, H⟩ := H
   have A10 := Aside0.mk A100
   clear A100
   obtain rfl := Option.some.inj H
   go_enter Try.func16, Try.ntmps16
   try go_wp2_with (first | ((with_reducible refine gate_dst (N := 2) rfl ?_); refine box_event ?hg (N := 2) ?hd (cs := #[.int .i64 a0_0, .slice A0_1 l0_1.length c0_1]) (t := 29) ?hr ?_; (case hd => rfl); (case hg => rfl); (case hr => first | (go_simp; done) | (go_simp; rfl)); intro gb241 hg w11 hbox hb; have n0_ := Aside0.mk (below_step BL hb); have n1_ := Aside0.mk (hbox); have n2_ := Aside0.mk ((by rw [hg]; exact (below_size BL) : w.heap.size ≤ gb241)); have n3_ := Aside0.mk ((by rw [hg]; exact (below_size BL) : w.heap.size ≤ gb241)); clear HB; have HB := n0_; have BK241 := n1_; have GW241 := n2_; have GE241 := n3_; clear n0_ n1_ n2_ n3_; clear hb hbox hg))
   have n0_ := Aside0.mk (blk_drew BK241.out)
   have n1_ := Aside0.mk (below_drew1 HB.out)
   clear BK241
   clear HB
   have BK241 := n0_
   have HB := n1_
   clear n0_ n1_
   refine start_ (n := 14) (S := fun w' => w'.cell? ⟨gb241, 0, none⟩ = some (.int .i64 a0_0) ∧ w'.cell? ⟨gb241, 1, none⟩ = some (.slice A0_1 l0_1.length c0_1)) (ds := []) #[false, false, false, false, false, false, false, false, false, false, false, false, false, false] (by kernel_rfl) rfl rfl ⟨(blk_cell BK241.out 0).trans rfl, (blk_cell BK241.out 1).trans rfl⟩ (fun hHeld => ?_); refine with_tabW spec_Has.tab1 spec_Has.bits1 (fun HT_ HW_ => ?_)
   generalize w11.drew = w12 at BK241 HB hHeld ⊢
   refine PT (i := 0) (N := some 5) (tf 1 13) rfl rfl HT_ HW_ hHeld ?_
   refine one_ (i := 1) (N := some 6) (tf 2 12) rfl rfl (one_of HT_.out (by kernel_rfl)) (by decide) (fun K hK => ?_)
   refine goes_ Try.func12 (by kernel_rfl) rfl #[.agg #[.int .i64 a0_0, .slice A0_1 l0_1.length c0_1]] (by rfl) rfl rfl AQ ?_
   with_reducible refine (spec_TableOk.calls k a0_0 _ _ l0_1 true _ ?side1 ?side2 A3.out).mono ?_
   (case side1 => exact SC HR0_1)
   (case side2 => exact HC0_1.out)
   rintro e w13 ⟨rfl, hb⟩
   refine ⟨_, rfl, ?_⟩
   have n0_ := Aside0.mk (blk_below (BD BK241) hb)
   have n1_ := Aside0.mk (below_step BG hb)
   clear BK241
   clear HB
   have BK241 := n0_
   have HB := n1_
   clear n0_ n1_
   (try clear hb)
   (try clear hb2)
   (try clear hk)
   (try clear hi)
   refine hK.out _ _ ⟨(blk_cell BK241.out 0).trans rfl, (blk_cell BK241.out 1).trans rfl⟩ (fun hHeld => ?_)
   clear hK K
   refine NM (some 6) ?_
   refine PU (i := 2) (N := some 7) (tf 3 11) rfl rfl HT_ ?_
   refine PU (i := 3) (N := some 8) (tf 4 10) rfl rfl HT_ ?_
   refine PU (i := 4) (N := some 9) (tf 5 9) rfl rfl HT_ ?_
   refine PU (i := 5) (N := some 10) (tf 6 8) rfl rfl HT_ ?_
   refine PU (i := 6) (N := some 11) (tf 7 7) rfl rfl HT_ ?_
   refine PU (i := 8) (N := some 13) #[true, true, true, true, true, true, true, false, true, false, false, false, false, false] rfl rfl HT_ ?_
   refine PT (i := 7) (N := some 12) (tf 9 5) rfl rfl HT_ HW_ hHeld ?_
   refine one_ (i := 9) (N := some 14) (tf 10 4) rfl rfl (one_of HT_.out (by kernel_rfl)) (by decide) (fun K hK => ?_)
   refine goes_ Try.func42 (by kernel_rfl) rfl #[.string a1] (by rfl) rfl rfl AQ ?_
   with_reducible refine (spec_l19Key.calls k a1 t243 t244 _ A9.out).mono ?_
   rintro e w14 ⟨rfl, hb⟩
   refine ⟨_, rfl, ?_⟩
   have n0_ := Aside0.mk (blk_below (BD BK241) hb)
   have n1_ := Aside0.mk (below_step BG hb)
   clear BK241
   clear HB
   have BK241 := n0_
   have HB := n1_
   clear n0_ n1_
   (try clear hb)
   (try clear hb2)
   (try clear hk)
   (try clear hi)
   refine hK.out _ _ ⟨(blk_cell BK241.out 0).trans rfl, (blk_cell BK241.out 1).trans rfl⟩ (fun hHeld => ?_)
   clear hK K
   refine NM (some 14) ?_
   refine one_ (i := 10) (N := some 15) (tf 11 3) rfl rfl (one_of HT_.out (by kernel_rfl)) (by decide) (fun K hK => ?_)
   refine goes_ Try.func37 (by kernel_rfl) rfl #[.agg #[.int .i64 a0_0, .slice A0_1 l0_1.length c0_1], .agg #[.int .i64 t243, .string t244]] (by rfl) rfl rfl AQ ?_
   with_reducible refine (spec_l19At.calls k a0_0 _ _ l0_1 t243 t244 t245 _ ?side1 ?side2 A10.out).mono ?_
   (case side1 => exact SC HR0_1)
   (case side2 => exact HC0_1.out)
   rintro e w15 ⟨rfl, hb⟩
   refine ⟨_, rfl, ?_⟩
   have n0_ := Aside0.mk (blk_below (BD BK241) hb)
   have n1_ := Aside0.mk (below_step BG hb)
   clear BK241
   clear HB
   have BK241 := n0_
   have HB := n1_
   clear n0_ n1_
   (try clear hb)
   (try clear hb2)
   (try clear hk)
   (try clear hi)
   refine hK.out _ _ ⟨(blk_cell BK241.out 0).trans rfl, (blk_cell BK241.out 1).trans rfl⟩ (fun hHeld => ?_)
   clear hK K
   refine NM (some 15) ?_
   refine PU (i := 11) (N := some 16) (tf 12 2) rfl rfl HT_ ?_
   refine PU (i := 12) (N := some 17) (tf 13 1) rfl rfl HT_ ?_
   refine PU (i := 13) (N := some 4) (tf 14 0) rfl rfl HT_ ?_
   refine done_ (done_of HT_.out (by kernel_rfl)) ?_
   try go_wp2
   go_ret
   exact ⟨by first | rfl | (simp [errW_none, errW_some] <;> rfl) | (simp [*, errW_none, errW_some] <;> rfl), BG⟩
 ·replace c4 := Bool.eq_false_iff.mpr c4
  subst c4
  replace H := IN H
  obtain rfl := Option.some.inj H
  go_enter Try.func16, Try.ntmps16
  try go_wp2_with (first | ((with_reducible refine gate_dst (N := 2) rfl ?_); refine box_event ?hg (N := 2) ?hd (cs := #[.int .i64 a0_0, .slice A0_1 l0_1.length c0_1]) (t := 29) ?hr ?_; (case hd => rfl); (case hg => rfl); (case hr => first | (go_simp; done) | (go_simp; rfl)); intro gb241 hg w16 hbox hb; have n0_ := Aside0.mk (below_step BL hb); have n1_ := Aside0.mk (hbox); have n2_ := Aside0.mk ((by rw [hg]; exact (below_size BL) : w.heap.size ≤ gb241)); have n3_ := Aside0.mk ((by rw [hg]; exact (below_size BL) : w.heap.size ≤ gb241)); clear HB; have HB := n0_; have BK241 := n1_; have GW241 := n2_; have GE241 := n3_; clear n0_ n1_ n2_ n3_; clear hb hbox hg))
  have n0_ := Aside0.mk (blk_drew BK241.out)
  have n1_ := Aside0.mk (below_drew1 HB.out)
  clear BK241
  clear HB
  have BK241 := n0_
  have HB := n1_
  clear n0_ n1_
  refine start_ (n := 14) (S := fun w' => w'.cell? ⟨gb241, 0, none⟩ = some (.int .i64 a0_0) ∧ w'.cell? ⟨gb241, 1, none⟩ = some (.slice A0_1 l0_1.length c0_1)) (ds := []) #[false, false, false, false, false, false, false, false, false, false, false, false, false, false] (by kernel_rfl) rfl rfl ⟨(blk_cell BK241.out 0).trans rfl, (blk_cell BK241.out 1).trans rfl⟩ (fun hHeld => ?_); refine with_tabW spec_Has.tab1 spec_Has.bits1 (fun HT_ HW_ => ?_)
  generalize w16.drew = w17 at BK241 HB hHeld ⊢
  refine PT (i := 0) (N := some 5) (tf 1 13) rfl rfl HT_ HW_ hHeld ?_
  refine one_ (i := 1) (N := some 6) (tf 2 12) rfl rfl (one_of HT_.out (by kernel_rfl)) (by decide) (fun K hK => ?_)
  refine goes_ Try.func12 (by kernel_rfl) rfl #[.agg #[.int .i64 a0_0, .slice A0_1 l0_1.length c0_1]] (by rfl) rfl rfl AQ ?_
  with_reducible refine (spec_TableOk.calls k a0_0 _ _ l0_1 false _ ?side1 ?side2 A3.out).mono ?_
  (case side1 => exact SC HR0_1)
  (case side2 => exact HC0_1.out)
  rintro e w18 ⟨rfl, hb⟩
  refine ⟨_, rfl, ?_⟩
  have n0_ := Aside0.mk (blk_below (BD BK241) hb)
  have n1_ := Aside0.mk (below_step BG hb)
  clear BK241
  clear HB
  have BK241 := n0_
  have HB := n1_
  clear n0_ n1_
  (try clear hb)
  (try clear hb2)
  (try clear hk)
  (try clear hi)
  refine hK.out _ _ ⟨(blk_cell BK241.out 0).trans rfl, (blk_cell BK241.out 1).trans rfl⟩ (fun hHeld => ?_)
  clear hK K
  refine NM (some 6) ?_
  refine PU (i := 2) (N := some 7) (tf 3 11) rfl rfl HT_ ?_
  refine PN (i := 3) (N := some 8) (tf 4 10) rfl rfl HT_ ?_
  refine PN (i := 4) (N := some 9) (tf 5 9) rfl rfl HT_ ?_
  refine PU (i := 5) (N := some 10) (tf 6 8) rfl rfl HT_ ?_
  refine PU (i := 6) (N := some 11) (tf 7 7) rfl rfl HT_ ?_
  refine PN (i := 7) (N := some 12) (tf 8 6) rfl rfl HT_ ?_
  refine PN (i := 8) (N := some 13) (tf 9 5) rfl rfl HT_ ?_
  refine PN (i := 9) (N := some 14) (tf 10 4) rfl rfl HT_ ?_
  refine PN (i := 10) (N := some 15) (tf 11 3) rfl rfl HT_ ?_
  refine PN (i := 11) (N := some 16) (tf 12 2) rfl rfl HT_ ?_
  refine PU (i := 12) (N := some 17) (tf 13 1) rfl rfl HT_ ?_
  refine PU (i := 13) (N := some 4) (tf 14 0) rfl rfl HT_ ?_
  refine done_ (done_of HT_.out (by kernel_rfl)) ?_
  try go_wp2
  go_ret
  exact ⟨by first | rfl | (simp [errW_none, errW_some] <;> rfl) | (simp [*, errW_none, errW_some] <;> rfl), BG⟩
def impl_Keys.l0 : Nat → List ByteArray → List (S50) → Int → Int → Option (List ByteArray)
 | 0, _, _, _, _ => none
 | k + 1, x3, x12, x13, x14 => if x14 < x13 then (if 0 ≤ x14 then (if x14 < (x12.length : Int) then (if ((rd_T50 x12 x14).f1).toList = ([] : List UInt8) then (impl_Keys.l0 k x3 x12 x13 (wrap64 (x14 + 1))) else (if x3.length < 8796093022208 then (impl_Keys.l0 k (x3 ++ [(rd_T50 x12 x14).f1]) x12 x13 (wrap64 (x14 + 1))) else (none))) else (none)) else (none)) else (some x3)
def impl_Keys.f (k : Nat) (a0_0 : Int) (l0_1 : List (S50)) : Option (List ByteArray) := (some (([] : List ByteArray) : List ByteArray)).bind fun y374 => ((impl_TableOk.f k a0_0 l0_1).bind fun t377 => (if t377 = true then (impl_Keys.l0 k y374 l0_1 (l0_1.length : Int) 0) else (some y374)))
theorem impl_Keys.mono_l : ∀ k, (∀ y0 y1 y2 y3, LeO (impl_Keys.l0 k y0 y1 y2 y3) (impl_Keys.l0 (k + 1) y0 y1 y2 y3))
 | 0 => fun _ _ _ _ r h => by simp [impl_Keys.l0] at h
 | k + 1 => by
  have ih0 := impl_Keys.mono_l k
  ·intro y0 y1 y2 y3
   unfold impl_Keys.l0
   repeat' first | (with_reducible first | exact ih0 _ _ _ _ | exact impl_TableOk.mono _ _ _ | exact LeO.refl _ | exact LeO.none _ | refine LeO.ite ?_ ?_ | refine LeO.bind ?_ (fun _ => ?_)) | exact ih0 _ _ _ _ | exact impl_TableOk.mono _ _ _ | exact LeO.none _ | refine LeO.ite ?_ ?_ | refine LeO.bind ?_ (fun _ => ?_)
theorem impl_Keys.mono : ∀ a0 a1 k, LeO (impl_Keys.f k a0 a1) (impl_Keys.f (k + 1) a0 a1) := by
 intro a0 a1 k
 have ih0 := impl_Keys.mono_l k
 unfold impl_Keys.f
 repeat' first | (with_reducible first | exact ih0 _ _ _ _ | exact impl_TableOk.mono _ _ _ | exact LeO.refl _ | exact LeO.none _ | refine LeO.ite ?_ ?_ | refine LeO.bind ?_ (fun _ => ?_)) | exact ih0 _ _ _ _ | exact impl_TableOk.mono _ _ _ | exact LeO.none _ | refine LeO.ite ?_ ?_ | refine LeO.bind ?_ (fun _ => ?_)
set_option maxHeartbeats 8000000 in
set_option maxRecDepth 100000 in
theorem impl_Keys.calls (k : Nat) (a0_0 : Int) (A0_1 : Option Addr) (c0_1 : Nat) (l0_1 : List (S50)) (r : List ByteArray) (w : World) (hr0_1 : Kd.C k50 w A0_1 l0_1.length l0_1) (hc0_1 : l0_1.length ≤ c0_1) (h : impl_Keys.f k a0_0 l0_1 = some r) :
  Calls Try.prog 23 #[.agg #[.int .i64 a0_0, .slice A0_1 l0_1.length c0_1]] w fun e w' => ∃ v0_ : Value, e = .returned (v0_) ∧ Kd.R Kd.string 9 w' w.heap.size (fun _ => True) v0_ r ∧ Below w.heap.size w w' := by
 have hu29 := Try.underlying29
 have hu50 := Try.underlying50
 have HR0_1 := Aside0.mk hr0_1
 have HC0_1 := Aside0.mk hc0_1
 clear hr0_1 hc0_1
 have HB := Aside0.mk (Below.refl w.heap.size w)
 have H : ((some (([] : List ByteArray) : List ByteArray)).bind fun y374 => ((impl_TableOk.f k a0_0 l0_1).bind fun t377 => (if t377 = true then (impl_Keys.l0 k y374 l0_1 (l0_1.length : Int) 0) else (some y374)))) = some r := h
 clear h
 obtain ⟨y374, hy374⟩ : ∃ y_ : List ByteArray, y_ = (([] : List ByteArray)) := ⟨_, rfl⟩
 replace H : ((impl_TableOk.f k a0_0 l0_1).bind fun t377 => (if t377 = true then (impl_Keys.l0 k y374 l0_1 (l0_1.length : Int) 0) else (some y374))) = some r := by first | (rw [hy374]; with_reducible exact H) | (have H2_ := (Option.bind_some _ _).symm.trans H; rw [hy374]; with_reducible exact H2_) | (have H2_ := (Option.bind_some _ _).symm.trans H; with_reducible exact H2_) | with_reducible exact H | (rw [hy374]; exact H) | exact H
 have Ny374 := Aside0.mk hy374
 clear hy374
 replace H := BS H
 obtain ⟨t377, A20, H⟩ := H
 have A2 := Aside0.mk A20
 clear A20
 by_cases c3 : t377 = true
 ·subst c3
  replace H := IP H
  have H' := Aside0.mk H
  clear H
  go_enter Try.func23, Try.ntmps23
  go_wp2_with (first | ((with_reducible refine gate_dst (N := 1) rfl ?_); refine box_event ?hg (N := 1) ?hd (cs := #[.int .i64 a0_0, .slice A0_1 l0_1.length c0_1]) (t := 29) ?hr ?_; (case hd => rfl); (case hg => rfl); (case hr => first | (go_simp; done) | (go_simp; rfl)); intro gb373 hg w4 hbox hb; have n0_ := Aside0.mk (below_step BL hb); have n1_ := Aside0.mk (hbox); have n2_ := Aside0.mk ((by rw [hg]; exact (below_size BL) : w.heap.size ≤ gb373)); have n3_ := Aside0.mk ((by rw [hg]; exact (below_size BL) : w.heap.size ≤ gb373)); clear HB; have HB := n0_; have BK373 := n1_; have GW373 := n2_; have GE373 := n3_; clear n0_ n1_ n2_ n3_; clear hb hbox hg) | ((with_reducible refine gate_dst (N := 6) rfl ?_); refine Kd.R_lit Kd.string _ 9 ?hg (N := 6) ?hd (xs := ([] : List ByteArray)) (inner := []) (ok := fun _ => True) (okp := fun _ => True) ?hr ?hp (fun _ hk => hk) trivial (Below.refl _ _) (Nat.le_refl _) (by simp) ?_; (case hd => rfl); (case hg => rfl); (case hr => first | (go_simp; done) | (go_simp; rfl)); (case hp => exact (Reps.none _ _)); intro v375 w5 ho6 hb hg_ hnew_; clear hg_ hnew_; (first | rw [← Ny374.out] at ho6 | (simp only [Int.reduceToNat] at ho6; rw [← Ny374.out] at ho6)); have n0_ := Aside0.mk (Kd.R_lower ho6 (below_size BG)); have n1_ := Aside0.mk (blk_below (BD BK373) hb); have n2_ := Aside0.mk (below_step BG hb); clear BK373; clear HB; have HO376 := n0_; have BK373 := n1_; have HB := n2_; clear n0_ n1_ n2_; clear hb ho6; obtain ⟨hcz7_0, hcz7_1, hfz7_0, hfz7_1⟩ := bk2 BK373.out) | ((with_reducible refine gate_callee (f := 14) rfl ?_); refine goesL_ (some 8) rfl rfl Try.func14 (by kernel_rfl) rfl #[.agg #[.int .i64 a0_0, .slice A0_1 l0_1.length c0_1]] rfl AQ ?_; (with_reducible refine (impl_TableOk.calls k a0_0 _ _ l0_1 true _ ?side1 ?side2 A2.out).mono ?_); (case side1 => exact SC HR0_1); (case side2 => exact HC0_1.out); rintro e w8 ⟨rfl, hb⟩; refine ⟨_, rfl, ?_⟩; have n0_ := Aside0.mk (Kd.R_below (RD HO376) hb); have n1_ := Aside0.mk (blk_below (BD BK373) hb); have n2_ := Aside0.mk (below_step BG hb); clear HO376; clear BK373; clear HB; have HO376 := n0_; have BK373 := n1_; have HB := n2_; clear n0_ n1_ n2_; (try clear hb); (try clear hb2); (try clear hk); (try clear hi); obtain ⟨hcz9_0, hcz9_1, hfz9_0, hfz9_1⟩ := bk2 BK373.out))
  go_loopg [3, 14] k (fun kq v3 v14 w' => ∃ (x3_1 : List ByteArray) (x14_1 : Int), v14 = .int .i64 x14_1 ∧ Aside0 (impl_Keys.l0 kq x3_1 l0_1 (l0_1.length : Int) x14_1 = some r) ∧ Aside0 (kq ≤ k) ∧ Aside0 (Kd.R Kd.string 9 w' w.heap.size (fun _ => True) v3 x3_1) ∧ Aside0 (w'.heap[gb373]? = some (.cells #[.int .i64 a0_0, (.slice A0_1 l0_1.length c0_1)] 29 (0, 0))) ∧ Aside0 (Below w.heap.size w w'))
  case atStart => exact ⟨(y374), (0), RS, H', ⟨Nat.le_refl _⟩, ⟨by (with_reducible repeat (first | apply Kd.R_alloc | apply Kd.R_drewN | apply Kd.R_drew)); exact HO376.out⟩, ⟨by (with_reducible repeat (first | refine blk_drewN ?_ _ | refine blk_drew ?_ | refine blk_alloc ?_ _)); exact BK373.out⟩, ⟨by repeat (first | (with_reducible first | exact HB.out | apply below_alloc | apply pw_below_drewN | apply below_drew1 | refine below_set ?_ GE373.out) | exact HB.out)⟩⟩
  case round =>
   clear H'
   try clear c1
   try clear c2
   try clear p2
   try clear c3
   try clear hcz7_0
   try clear hcz7_1
   try clear hcz9_0
   try clear hcz9_1
   try clear hfz7_0
   try clear hfz7_1
   try clear hfz9_0
   try clear hfz9_1
   obtain ⟨x3_1, x14_1, rfl, HA, HK1, HO_3, BK373, HB⟩ := hrel
   cases gk with
   | zero => exact absurd HA.out (by simp [impl_Keys.l0])
   | succ k1 =>
    have H := HA.out
    clear HA
    simp only [impl_Keys.l0] at H
    by_cases c10 : x14_1 < (l0_1.length : Int)
    ·rw [if_pos c10] at H
     have c10b0 : decide (x14_1 < (l0_1.length : Int)) = true := decide_eq_true c10
     clear c10
     by_cases c11 : 0 ≤ x14_1
     ·rw [if_pos c11] at H
      have c11b0 : decide (0 ≤ x14_1) = true := decide_eq_true c11
      clear c11
      by_cases c12 : x14_1 < (l0_1.length : Int)
      ·rw [if_pos c12] at H
       have c12b0 : decide (x14_1 < (l0_1.length : Int)) = true := decide_eq_true c12
       clear c12
       by_cases c13 : ((rd_T50 l0_1 x14_1).f1).toList = ([] : List UInt8)
       ·rw [if_pos c13] at H
        have c13b0 : (((rd_T50 l0_1 x14_1).f1).toList == ([] : List UInt8)) = true := beq_iff_eq.mpr c13
        have c13b1 : (((rd_T50 l0_1 x14_1).f1).toList != ([] : List UInt8)) = false := bne_eq_false_iff_eq.mpr c13
        clear c13
        have H' := Aside0.mk H
        clear H
        have p378 : 0 ≤ (x14_1 : Int) := of_decide_eq_true AS
        have q378 : x14_1 < (l0_1.length : Int) := of_decide_eq_true AS
        obtain ⟨ad378, e378, hx378_0, hx378_1⟩ := at_T50 HR0_1.out x14_1 p378 q378
        cases e378
        replace hx378_0 := (HB.out.cell (World.block_lt_of_cell? w _ hx378_0)).trans hx378_0
        replace hx378_1 := (HB.out.cell (World.block_lt_of_cell? w _ hx378_1)).trans hx378_1
        replace p378 := eq_true p378
        replace q378 := eq_true q378
        go_wp2_with (first | ((with_reducible refine gate_dst (N := 5) rfl ?_); refine box_event ?hg (N := 5) ?hd (cs := #[.int .i64 0, .string (⟨#[]⟩ : ByteArray)]) (t := 50) ?hr ?_; (case hd => rfl); (case hg => rfl); (case hr => first | (go_simp; done) | (go_simp; rfl)); intro gb379 hg w14 hbox hb; have n0_ := Aside0.mk (Kd.R_below (RD HO_3) hb); have n1_ := Aside0.mk (blk_below (BD BK373) hb); have n2_ := Aside0.mk (below_step BG hb); have n3_ := Aside0.mk (hbox); have n4_ := Aside0.mk ((by rw [hg]; exact (below_size BG) : w.heap.size ≤ gb379)); have n5_ := Aside0.mk ((by rw [hg]; exact (below_size BG) : w.heap.size ≤ gb379)); have n6_ := Aside0.mk ((by rw [hg]; exact Nat.ne_of_lt (blk_lt (BD BK373)) : gb373 ≠ gb379)); have n7_ := Aside0.mk ((by rw [hg]; exact Nat.ne_of_gt (blk_lt (BD BK373)) : gb379 ≠ gb373)); clear HO_3; clear BK373; clear HB; have HO_3 := n0_; have BK373 := n1_; have HB := n2_; have BK379 := n3_; have GW379 := n4_; have GE379 := n5_; have NB373_379 := n6_; have NB379_373 := n7_; clear n0_ n1_ n2_ n3_ n4_ n5_ n6_ n7_; clear hb hbox hg; have hnb15 := NB379_373.out; have hnc15 := NB373_379.out; obtain ⟨hcz16_0, hcz16_1, hfz16_0, hfz16_1⟩ := bk2 BK379.out))
        go_roundg k1
        case measure => have := HK1.out; omega
        case rel => exact ⟨(x3_1), (wrap64 (x14_1 + 1)), RS, H', ⟨by have := HK1.out; omega⟩, ⟨by (with_reducible repeat (first | apply Kd.R_alloc | apply Kd.R_drewN | apply Kd.R_drew)); exact Kd.R_mono (FR (FR (Kd.R_types HO_3.out BK379.out (by decide)))) (fun _ hk => trivial)⟩, ⟨by (with_reducible repeat (first | refine blk_drewN ?_ _ | refine blk_drew ?_ | refine blk_alloc ?_ _)); refine blk_far ?_ NB373_379.out _; (with_reducible repeat (first | refine blk_drewN ?_ _ | refine blk_drew ?_ | refine blk_alloc ?_ _)); refine blk_far ?_ NB373_379.out _; (with_reducible repeat (first | refine blk_drewN ?_ _ | refine blk_drew ?_ | refine blk_alloc ?_ _)); exact BK373.out⟩, ⟨by repeat (first | (with_reducible first | exact HB.out | apply below_alloc | apply pw_below_drewN | apply below_drew1 | refine below_set ?_ GE373.out | refine below_set ?_ GE379.out) | exact HB.out)⟩⟩
       ·rw [if_neg c13] at H
        have c13b0 : (((rd_T50 l0_1 x14_1).f1).toList == ([] : List UInt8)) = false := beq_eq_false_iff_ne.mpr c13
        have c13b1 : (((rd_T50 l0_1 x14_1).f1).toList != ([] : List UInt8)) = true := bne_iff_ne.mpr c13
        by_cases c17 : x3_1.length < 8796093022208
        ·rw [if_pos c17] at H
         have LMc17 := Aside0.mk c17
         clear c17
         obtain ⟨y380, hy380⟩ : ∃ y_ : List ByteArray, y_ = (x3_1 ++ [(rd_T50 l0_1 x14_1).f1]) := ⟨_, rfl⟩
         replace H : (impl_Keys.l0 k1 y380 l0_1 (l0_1.length : Int) (wrap64 (x14_1 + 1))) = some r := by first | (rw [hy380]; with_reducible exact H) | (have H2_ := (Option.bind_some _ _).symm.trans H; rw [hy380]; with_reducible exact H2_) | (have H2_ := (Option.bind_some _ _).symm.trans H; with_reducible exact H2_) | with_reducible exact H | (rw [hy380]; exact H) | exact H
         have Ny380 := Aside0.mk hy380
         clear hy380
         have H' := Aside0.mk H
         clear H
         have p378 : 0 ≤ (x14_1 : Int) := of_decide_eq_true AS
         have q378 : x14_1 < (l0_1.length : Int) := of_decide_eq_true AS
         obtain ⟨ad378, e378, hx378_0, hx378_1⟩ := at_T50 HR0_1.out x14_1 p378 q378
         cases e378
         replace hx378_0 := (HB.out.cell (World.block_lt_of_cell? w _ hx378_0)).trans hx378_0
         replace hx378_1 := (HB.out.cell (World.block_lt_of_cell? w _ hx378_1)).trans hx378_1
         replace p378 := eq_true p378
         replace q378 := eq_true q378
         go_wp2_with (first | ((with_reducible refine gate_dst (N := 5) rfl ?_); refine box_event ?hg (N := 5) ?hd (cs := #[.int .i64 0, .string (⟨#[]⟩ : ByteArray)]) (t := 50) ?hr ?_; (case hd => rfl); (case hg => rfl); (case hr => first | (go_simp; done) | (go_simp; rfl)); intro gb379 hg w18 hbox hb; have n0_ := Aside0.mk (Kd.R_below (RD HO_3) hb); have n1_ := Aside0.mk (blk_below (BD BK373) hb); have n2_ := Aside0.mk (below_step BG hb); have n3_ := Aside0.mk (hbox); have n4_ := Aside0.mk ((by rw [hg]; exact (below_size BG) : w.heap.size ≤ gb379)); have n5_ := Aside0.mk ((by rw [hg]; exact (below_size BG) : w.heap.size ≤ gb379)); have n6_ := Aside0.mk ((by rw [hg]; exact Nat.ne_of_lt (blk_lt (BD BK373)) : gb373 ≠ gb379)); have n7_ := Aside0.mk ((by rw [hg]; exact Nat.ne_of_gt (blk_lt (BD BK373)) : gb379 ≠ gb373)); clear HO_3; clear BK373; clear HB; have HO_3 := n0_; have BK373 := n1_; have HB := n2_; have BK379 := n3_; have GW379 := n4_; have GE379 := n5_; have NB373_379 := n6_; have NB379_373 := n7_; clear n0_ n1_ n2_ n3_ n4_ n5_ n6_ n7_; clear hb hbox hg; have hnb19 := NB379_373.out; have hnc19 := NB373_379.out; obtain ⟨hcz20_0, hcz20_1, hfz20_0, hfz20_1⟩ := bk2 BK379.out) | ((with_reducible refine gate_builtin (b := .append) (xs := #[.tmp 21, .tmp 24]) rfl ?_); at_builtin; refine Kd.R_append Kd.string (w0 := w) w.heap.size rfl (.tmp 21) (.tmp 24) 38 9 (.string ⟨#[]⟩) 16 rfl Try.underlying38 info9 rfl (by decide) (by omega) u3 x3_1 ((rd_T50 l0_1 x14_1).f1) [.string ((rd_T50 l0_1 x14_1).f1)] (fun _ => True) (fun _ => False) rfl (by first | (go_simp; done) | (go_simp; rfl)) ?aP (fun _ hk => hk.elim) ?aF ?aO ?aB ?aS ?aL ?_; (case aP => exact rfl); (case aB => exact BG); (case aF => exact (fun _ _ => trivial)); (case aO => exact (by (with_reducible repeat (first | apply Kd.R_alloc | apply Kd.R_drewN | apply Kd.R_drew)); exact Kd.R_mono (FR (FR (Kd.R_types HO_3.out BK379.out (by decide)))) (fun _ hk => trivial))); (case aS => exact (below_size BG)); (case aL => have := LMc17.out; omega); intro v381 w21 ho hb hg hat; rw [← Ny380.out] at ho; have n0_ := Aside0.mk (blk_grown (g := gb373) (o := .cells #[.int .i64 a0_0, .slice (some ad378) l0_1.length c0_1] 29 (0, 0)) (by (with_reducible repeat (first | refine blk_drewN ?_ _ | refine blk_drew ?_ | refine blk_alloc ?_ _)); refine blk_far ?_ NB373_379.out _; (with_reducible repeat (first | refine blk_drewN ?_ _ | refine blk_drew ?_ | refine blk_alloc ?_ _)); refine blk_far ?_ NB373_379.out _; (with_reducible repeat (first | refine blk_drewN ?_ _ | refine blk_drew ?_ | refine blk_alloc ?_ _)); exact BK373.out) hg (Kd.R_ne HO_3.out BK373.out (by decide))); have n1_ := Aside0.mk (blk_grown (g := gb379) (o := .cells #[.int .i64 ((rd_T50 l0_1 x14_1).f0), .string ((rd_T50 l0_1 x14_1).f1)] 50 (0, 0)) (by (with_reducible repeat (first | refine blk_drewN ?_ _ | refine blk_drew ?_ | refine blk_alloc ?_ _)); refine blk_put (cs := #[.int .i64 ((rd_T50 l0_1 x14_1).f0), .string (⟨#[]⟩ : ByteArray)]) ?_ 1 _ rfl; (with_reducible repeat (first | refine blk_drewN ?_ _ | refine blk_drew ?_ | refine blk_alloc ?_ _)); refine blk_put (cs := #[.int .i64 0, .string (⟨#[]⟩ : ByteArray)]) ?_ 0 _ rfl; (with_reducible repeat (first | refine blk_drewN ?_ _ | refine blk_drew ?_ | refine blk_alloc ?_ _)); exact BK379.out) hg (Kd.R_ne HO_3.out BK379.out (by decide))); have n2_ := Aside0.mk (hb); have n3_ := Aside0.mk (ho); clear BK373; clear BK379; clear HB; clear HO_3; have BK373 := n0_; have BK379 := n1_; have HB := n2_; have HO382 := n3_; clear n0_ n1_ n2_ n3_; clear ho hb hg hat))
         go_roundg k1
         case measure => have := HK1.out; omega
         case rel => exact ⟨(y380), (wrap64 (x14_1 + 1)), RS, H', ⟨by have := HK1.out; omega⟩, ⟨by (with_reducible repeat (first | apply Kd.R_alloc | apply Kd.R_drewN | apply Kd.R_drew)); exact HO382.out⟩, ⟨by (with_reducible repeat (first | refine blk_drewN ?_ _ | refine blk_drew ?_ | refine blk_alloc ?_ _)); exact BK373.out⟩, ⟨by repeat (first | (with_reducible first | exact HB.out | apply below_alloc | apply pw_below_drewN | apply below_drew1 | refine below_set ?_ GE373.out | refine below_set ?_ GE379.out) | exact HB.out)⟩⟩
        ·rw [if_neg c17] at H
         exact absurd H (by simp)
      ·rw [if_neg c12] at H
       exact absurd H (by simp)
     ·rw [if_neg c11] at H
      exact absurd H (by simp)
    ·rw [if_neg c10] at H
     have c10b0 : decide (x14_1 < (l0_1.length : Int)) = false := decide_eq_false c10
     clear c10
     obtain rfl := Option.some.inj H
     go_wp2
     go_ret
     exact ⟨_, by first | rfl | (simp [errW_none, errW_some] <;> rfl) | (simp [*, errW_none, errW_some] <;> rfl), by (with_reducible repeat (first | apply Kd.R_alloc | apply Kd.R_drewN | apply Kd.R_drew)); exact HO_3.out, BG⟩
 ·replace c3 := Bool.eq_false_iff.mpr c3
  subst c3
  replace H := IN H
  obtain rfl := Option.some.inj H
  go_enter Try.func23, Try.ntmps23
  go_wp2_with (first | ((with_reducible refine gate_dst (N := 1) rfl ?_); refine box_event ?hg (N := 1) ?hd (cs := #[.int .i64 a0_0, .slice A0_1 l0_1.length c0_1]) (t := 29) ?hr ?_; (case hd => rfl); (case hg => rfl); (case hr => first | (go_simp; done) | (go_simp; rfl)); intro gb373 hg w22 hbox hb; have n0_ := Aside0.mk (below_step BL hb); have n1_ := Aside0.mk (hbox); have n2_ := Aside0.mk ((by rw [hg]; exact (below_size BL) : w.heap.size ≤ gb373)); have n3_ := Aside0.mk ((by rw [hg]; exact (below_size BL) : w.heap.size ≤ gb373)); clear HB; have HB := n0_; have BK373 := n1_; have GW373 := n2_; have GE373 := n3_; clear n0_ n1_ n2_ n3_; clear hb hbox hg) | ((with_reducible refine gate_dst (N := 6) rfl ?_); refine Kd.R_lit Kd.string _ 9 ?hg (N := 6) ?hd (xs := ([] : List ByteArray)) (inner := []) (ok := fun _ => True) (okp := fun _ => True) ?hr ?hp (fun _ hk => hk) trivial (Below.refl _ _) (Nat.le_refl _) (by simp) ?_; (case hd => rfl); (case hg => rfl); (case hr => first | (go_simp; done) | (go_simp; rfl)); (case hp => exact (Reps.none _ _)); intro v375 w23 ho24 hb hg_ hnew_; clear hg_ hnew_; (first | rw [← Ny374.out] at ho24 | (simp only [Int.reduceToNat] at ho24; rw [← Ny374.out] at ho24)); have n0_ := Aside0.mk (Kd.R_lower ho24 (below_size BG)); have n1_ := Aside0.mk (blk_below (BD BK373) hb); have n2_ := Aside0.mk (below_step BG hb); clear BK373; clear HB; have HO376 := n0_; have BK373 := n1_; have HB := n2_; clear n0_ n1_ n2_; clear hb ho24; obtain ⟨hcz25_0, hcz25_1, hfz25_0, hfz25_1⟩ := bk2 BK373.out) | ((with_reducible refine gate_callee (f := 14) rfl ?_); refine goesL_ (some 8) rfl rfl Try.func14 (by kernel_rfl) rfl #[.agg #[.int .i64 a0_0, .slice A0_1 l0_1.length c0_1]] rfl AQ ?_; (with_reducible refine (impl_TableOk.calls k a0_0 _ _ l0_1 false _ ?side1 ?side2 A2.out).mono ?_); (case side1 => exact SC HR0_1); (case side2 => exact HC0_1.out); rintro e w26 ⟨rfl, hb⟩; refine ⟨_, rfl, ?_⟩; have n0_ := Aside0.mk (Kd.R_below (RD HO376) hb); have n1_ := Aside0.mk (blk_below (BD BK373) hb); have n2_ := Aside0.mk (below_step BG hb); clear HO376; clear BK373; clear HB; have HO376 := n0_; have BK373 := n1_; have HB := n2_; clear n0_ n1_ n2_; (try clear hb); (try clear hb2); (try clear hk); (try clear hi)))
  go_ret
  exact ⟨_, by first | rfl | (simp [errW_none, errW_some] <;> rfl) | (simp [*, errW_none, errW_some] <;> rfl), by (with_reducible repeat (first | apply Kd.R_alloc | apply Kd.R_drewN | apply Kd.R_drew)); exact HO376.out, BG⟩
end Go.Proofs.Ytcdflbbohnjegaa.G
