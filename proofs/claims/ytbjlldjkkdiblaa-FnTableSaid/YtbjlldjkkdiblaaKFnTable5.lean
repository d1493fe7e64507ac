/- Part 5 of the claim FnTable, merged by pack.py (this session's program) out of: the print's words, cut to what is needed; texts that gen.py printed (it runs the kit's print in place); texts of this session. -/
import Derived.Test.YtbjlldjkkdiblaaKFnTable1
import Derived.Test.YtbjlldjkkdiblaaKFnTable3
import Derived.Test.YtbjlldjkkdiblaaKFnTable4
namespace Go.Proofs.Ytbjlldjkkdiblaa.Sh
end Go.Proofs.Ytbjlldjkkdiblaa.Sh
namespace Go.Proofs.Ytbjlldjkkdiblaa.G
open Go.RowKit Go.Proofs.YtbjlldjkkdiblaaW.PrintWords Go.Proofs.YtbjlldjkkdiblaaW.PrintLast Go.Proofs.YtbjlldjkkdiblaaW.PrintMore Go.Proofs.Ytbjlldjkkdiblaa.Sh
attribute [local go_sem] max2_int min2_int max_two min_two max_three min_three max_four min_four
set_option linter.unusedVariables false
set_option linter.unusedSimpArgs false
mutual
def impl_Add.j0 : Nat → ByteArray → Bool → Int → List (S49) → Option (Int × (List (S49)) × Bool)
 | 0, _, _, _, _ => none
 | k + 1, x1, x15, x549000, x549001 => if x15 = true then (some (0, ([] : List (S49)), false)) else ((impl_Hash.f k x1).bind fun t552 => ((impl_Bucket.f t552 x549000).bind fun t553 => ((impl_Table_opened.f k x549000 x549001 t553).bind fun bt554 => ((impl_Has.f k x549000 x549001 x1).bind fun t559 => (if t559 = true then (impl_Add.j1 k x1 true bt554.1 bt554.2) else ((impl_Table_keysIn.f k x549000 x549001).bind fun t560 => (impl_Add.j1 k x1 (t560 == 200) bt554.1 bt554.2)))))))
def impl_Add.j1 : Nat → ByteArray → Bool → Int → List (S49) → Option (Int × (List (S49)) × Bool)
 | 0, _, _, _, _ => none
 | k + 1, x1, x31, x559000, x559001 => if x31 = true then (some (x559000, x559001, false)) else ((impl_entryOf.f k x1).bind fun bt561 => ((impl_Table_with.f k x559000 x559001 bt561.1 bt561.2).bind fun bt563 => (some (bt563.1, bt563.2, true))))
end
def impl_Add.f (k : Nat) (a0_0 : Int) (l0_1 : List (S49)) (a1 : ByteArray) : Option (Int × (List (S49)) × Bool) := (impl_TableOk.f k a0_0 l0_1).bind fun t550 => (if t550 = true then ((impl_ItemOk.f k a1 (⟨#[]⟩ : ByteArray) 0).bind fun t551 => (impl_Add.j0 k a1 (!t551) a0_0 l0_1)) else (impl_Add.j0 k a1 true a0_0 l0_1))
theorem impl_Add.mono_l : ∀ k, (∀ y0 y1 y2 y3, LeO (impl_Add.j0 k y0 y1 y2 y3) (impl_Add.j0 (k + 1) y0 y1 y2 y3)) ∧ (∀ y0 y1 y2 y3, LeO (impl_Add.j1 k y0 y1 y2 y3) (impl_Add.j1 (k + 1) y0 y1 y2 y3))
 | 0 => ⟨fun _ _ _ _ r h => by simp [impl_Add.j0] at h, fun _ _ _ _ r h => by simp [impl_Add.j1] at h⟩
 | k + 1 => by
  obtain ⟨ih0, ih1⟩ := impl_Add.mono_l k
  refine ⟨?_, ?_⟩
  ·intro y0 y1 y2 y3
   unfold impl_Add.j0
   repeat' first | (with_reducible first | exact ih0 _ _ _ _ | exact ih1 _ _ _ _ | exact impl_Has.mono _ _ _ _ | exact impl_Hash.mono _ _ | exact impl_ItemOk.mono _ _ _ _ | exact impl_TableOk.mono _ _ _ | exact impl_Table_keysIn.mono _ _ _ | exact impl_Table_opened.mono _ _ _ _ | exact impl_Table_with.mono _ _ _ _ _ | exact impl_entryOf.mono _ _ | exact LeO.refl _ | exact LeO.none _ | refine LeO.ite ?_ ?_ | refine LeO.bind ?_ (fun _ => ?_)) | exact ih0 _ _ _ _ | exact ih1 _ _ _ _ | exact impl_Has.mono _ _ _ _ | exact impl_Hash.mono _ _ | exact impl_ItemOk.mono _ _ _ _ | exact impl_TableOk.mono _ _ _ | exact impl_Table_keysIn.mono _ _ _ | exact impl_Table_opened.mono _ _ _ _ | exact impl_Table_with.mono _ _ _ _ _ | exact impl_entryOf.mono _ _ | exact LeO.none _ | refine LeO.ite ?_ ?_ | refine LeO.bind ?_ (fun _ => ?_)
  ·intro y0 y1 y2 y3
   unfold impl_Add.j1
   repeat' first | (with_reducible first | exact ih0 _ _ _ _ | exact ih1 _ _ _ _ | exact impl_Has.mono _ _ _ _ | exact impl_Hash.mono _ _ | exact impl_ItemOk.mono _ _ _ _ | exact impl_TableOk.mono _ _ _ | exact impl_Table_keysIn.mono _ _ _ | exact impl_Table_opened.mono _ _ _ _ | exact impl_Table_with.mono _ _ _ _ _ | exact impl_entryOf.mono _ _ | exact LeO.refl _ | exact LeO.none _ | refine LeO.ite ?_ ?_ | refine LeO.bind ?_ (fun _ => ?_)) | exact ih0 _ _ _ _ | exact ih1 _ _ _ _ | exact impl_Has.mono _ _ _ _ | exact impl_Hash.mono _ _ | exact impl_ItemOk.mono _ _ _ _ | exact impl_TableOk.mono _ _ _ | exact impl_Table_keysIn.mono _ _ _ | exact impl_Table_opened.mono _ _ _ _ | exact impl_Table_with.mono _ _ _ _ _ | exact impl_entryOf.mono _ _ | exact LeO.none _ | refine LeO.ite ?_ ?_ | refine LeO.bind ?_ (fun _ => ?_)
theorem impl_Add.mono : ∀ a0 a1 a2 k, LeO (impl_Add.f k a0 a1 a2) (impl_Add.f (k + 1) a0 a1 a2) := by
 intro a0 a1 a2 k
 obtain ⟨ih0, ih1⟩ := impl_Add.mono_l k
 unfold impl_Add.f
 repeat' first | (with_reducible first | exact ih0 _ _ _ _ | exact ih1 _ _ _ _ | exact impl_Has.mono _ _ _ _ | exact impl_Hash.mono _ _ | exact impl_ItemOk.mono _ _ _ _ | exact impl_TableOk.mono _ _ _ | exact impl_Table_keysIn.mono _ _ _ | exact impl_Table_opened.mono _ _ _ _ | exact impl_Table_with.mono _ _ _ _ _ | exact impl_entryOf.mono _ _ | exact LeO.refl _ | exact LeO.none _ | refine LeO.ite ?_ ?_ | refine LeO.bind ?_ (fun _ => ?_)) | exact ih0 _ _ _ _ | exact ih1 _ _ _ _ | exact impl_Has.mono _ _ _ _ | exact impl_Hash.mono _ _ | exact impl_ItemOk.mono _ _ _ _ | exact impl_TableOk.mono _ _ _ | exact impl_Table_keysIn.mono _ _ _ | exact impl_Table_opened.mono _ _ _ _ | exact impl_Table_with.mono _ _ _ _ _ | exact impl_entryOf.mono _ _ | exact LeO.none _ | refine LeO.ite ?_ ?_ | refine LeO.bind ?_ (fun _ => ?_)
def impl_Add.T3 : Bool × List (List Nat × List Nat) := (true, [([], []), ([], []), ([1], [1]), ([], []), ([3], [3]), ([2, 4, 2], [2, 4]), ([0, 5, 5], [0, 5]), ([], []), ([7, 6, 6, 0, 1, 2, 3, 4, 5, 6, 7], [6, 7])])
def impl_Add.B3 : List Nat := [0, 0, 2, 0, 8, 30, 63, 0, 255]
theorem impl_Add.tab3 : rtab .any (opsOf Try.f13 3) = impl_Add.T3 := by kernel_rfl
theorem impl_Add.bits3 : waitsOk impl_Add.T3.2 impl_Add.B3 = true := by kernel_rfl
theorem impl_Add.z0 {P : Prop} (h : P := by simp only [putAll, Act.put, List.setIfInBounds_toArray, List.set_cons_zero, List.set_cons_succ]) : P := h
theorem impl_Add.z1 {P : Prop} (h : P := by rw [hg]; exact Nat.ne_of_lt (blk_lt (BD BK548))) : P := h
theorem impl_Add.z2 {P : Prop} (h : P := by rw [hg]; exact Nat.ne_of_gt (blk_lt (BD BK548))) : P := h
theorem impl_Add.z3 {P : Prop} (h : P := by rw [hg]; exact Nat.ne_of_lt (blk_lt (BD BK549))) : P := h
theorem impl_Add.z4 {P : Prop} (h : P := by rw [hg]; exact Nat.ne_of_gt (blk_lt (BD BK549))) : P := h
set_option maxHeartbeats 8000000 in
set_option maxRecDepth 100000 in
theorem impl_Add.calls (k : Nat) (a0_0 : Int) (A0_1 : Option Addr) (c0_1 : Nat) (l0_1 : List (S49)) (a1 : ByteArray) (r1 : Int) (r2 : List (S49)) (r3 : Bool) (w : World) (hr0_1 : Kd.C k49 w A0_1 l0_1.length l0_1) (hc0_1 : l0_1.length ≤ c0_1) (h : impl_Add.f k a0_0 l0_1 a1 = some (r1, r2, r3)) :
  Calls Try.prog 13 #[.agg #[.int .i64 a0_0, .slice A0_1 l0_1.length c0_1], .string a1] w fun e w' => ∃ v1_ : Value, e = .returned (.tuple #[.agg #[.int .i64 r1, v1_], .bool r3]) ∧ Kd.R k49 49 w' w.heap.size (fun _ => True) v1_ r2 ∧ Below w.heap.size w w' := by
 have hu25 := Try.underlying25
 have hu55 := Try.underlying55
 have HR0_1 := Aside0.mk hr0_1
 have HC0_1 := Aside0.mk hc0_1
 clear hr0_1 hc0_1
 have HB := Aside0.mk (Below.refl w.heap.size w)
 have H : ((impl_TableOk.f k a0_0 l0_1).bind fun t550 => (if t550 = true then ((impl_ItemOk.f k a1 (⟨#[]⟩ : ByteArray) 0).bind fun t551 => (impl_Add.j0 k a1 (!t551) a0_0 l0_1)) else (impl_Add.j0 k a1 true a0_0 l0_1))) = some (r1, r2, r3) := h
 clear h
 have HC3 := Aside0.mk H
 clear H
 go_enter Try.func13, Try.ntmps13
 go_upto_region 1 with (first | ((with_reducible refine gate_dst (N := 2) rfl ?_); refine box_event ?hg (N := 2) ?hd (cs := #[.int .i64 a0_0, .slice A0_1 l0_1.length c0_1]) (t := 25) ?hr ?_; (case hd => rfl); (case hg => rfl); (case hr => first | (go_simp; done) | (go_simp; rfl)); intro gb548 hg w4 hbox hb; have n_ : _ ∧ _ ∧ _ ∧ _ := ⟨AsM (below_step BL hb), AsM (hbox), AsM ((GL : w.heap.size ≤ gb548)), AsM ((GL : w.heap.size ≤ gb548))⟩; clear HB; obtain ⟨HB, BK548, GW548, GE548⟩ := n_; clear hb hbox hg) | ((with_reducible refine gate_dst (N := 4) rfl ?_); refine box_event ?hg (N := 4) ?hd (cs := #[.int .i64 0, .slice none 0 0]) (t := 25) ?hr ?_; (case hd => rfl); (case hg => rfl); (case hr => first | (go_simp; done) | (go_simp; rfl)); intro gb549 hg w5 hbox hb; have n_ : _ ∧ _ ∧ _ ∧ _ ∧ _ ∧ _ ∧ _ := ⟨AsM (blk_below (BD BK548) hb), AsM (below_step BG hb), AsM (hbox), AsM ((GM : w.heap.size ≤ gb549)), AsM ((GM : w.heap.size ≤ gb549)), AsM ((impl_Add.z1 : gb548 ≠ gb549)), AsM ((impl_Add.z2 : gb549 ≠ gb548))⟩; clear BK548 HB; obtain ⟨BK548, HB, BK549, GW549, GE549, NB548_549, NB549_548⟩ := n_; clear hb hbox hg))
 (try simp only [Act.put, List.setIfInBounds_toArray, List.set_cons_zero, List.set_cons_succ])
 go_cut [15] (fun v15 wc => ∃ (kq : Nat) (x15_2 : Bool), v15 = .bool x15_2 ∧ Aside0 (impl_Add.j0 kq a1 x15_2 a0_0 l0_1 = some (r1, r2, r3)) ∧ Aside0 (kq ≤ k) ∧ Aside0 (wc.heap[gb548]? = some (.cells #[.int .i64 a0_0, (.slice A0_1 l0_1.length c0_1)] 25 (0, 0))) ∧ Aside0 (wc.heap[gb549]? = some (.cells #[.int .i64 0, (.slice none 0 0)] 25 (0, 0))) ∧ Aside0 (Below w.heap.size w wc))
 case first =>
  have H := HC3.out
  clear HC3
  replace H := BS H
  obtain ⟨t550, A60, H⟩ := H
  have A6 := Aside0.mk A60
  clear A60
  by_cases c7 : t550 = true
  ·subst c7
   replace H := IP H
   replace H := BS H
   obtain ⟨t551, A80, H⟩ := H
   have A8 := Aside0.mk A80
   clear A80
   have H' := Aside0.mk H
   clear H
   have hnb9 := NB548_549.out
   have hnc9 := NB549_548.out
   obtain ⟨hcz10_0, hcz10_1, hfz10_0, hfz10_1⟩ := bk2 BK548.out
   go_wp2_with (first | ((with_reducible refine gate_callee (f := 7) rfl ?_); refine goesL_ (some 8) rfl rfl Try.func7 (by kernel_rfl) rfl #[.agg #[.int .i64 a0_0, .slice A0_1 l0_1.length c0_1]] rfl AQ ?_; (with_reducible refine (impl_TableOk.calls k a0_0 _ _ l0_1 true _ ?side1 ?side2 A6.out).mono ?_); (case side1 => exact SC HR0_1); (case side2 => exact HC0_1.out); rintro e w11 ⟨rfl, hb⟩; refine ⟨_, rfl, ?_⟩; have n_ : _ ∧ _ ∧ _ := ⟨AsM (blk_below (BD BK548) hb), AsM (blk_below (BD BK549) hb), AsM (below_step BG hb)⟩; clear BK548 BK549 HB; obtain ⟨BK548, BK549, HB⟩ := n_; (try clear hb); (try clear hb2); (try clear hk); (try clear hi)) | (go_at_call 26; (with_reducible refine (impl_ItemOk.calls k a1 (⟨#[]⟩ : ByteArray) 0 t551 _ A8.out).mono ?_); rintro e w12 ⟨rfl, hb⟩; have n_ : _ ∧ _ ∧ _ := ⟨AsM (blk_below (BD BK548) hb), AsM (blk_below (BD BK549) hb), AsM (below_step BG hb)⟩; clear BK548 BK549 HB; obtain ⟨BK548, BK549, HB⟩ := n_; (try clear hb); (try clear hb2); (try clear hk); (try clear hi)))
   go_meet
   case rel => exact ⟨_, (!t551), RS, H', ⟨by first | omega | exact Nat.le_refl _⟩, ⟨BD BK548⟩, ⟨BD BK549⟩, ⟨by repeat (first | (with_reducible first | exact HB.out | apply below_alloc | apply pw_below_drewN | apply below_drew1 | refine below_set ?_ GE548.out | refine below_set ?_ GE549.out) | exact HB.out)⟩⟩
  ·replace c7 := Bool.eq_false_iff.mpr c7
   subst c7
   replace H := IN H
   have H' := Aside0.mk H
   clear H
   have hnb13 := NB548_549.out
   have hnc13 := NB549_548.out
   obtain ⟨hcz14_0, hcz14_1, hfz14_0, hfz14_1⟩ := bk2 BK548.out
   go_wp2_with (first | ((with_reducible refine gate_callee (f := 7) rfl ?_); refine goesL_ (some 8) rfl rfl Try.func7 (by kernel_rfl) rfl #[.agg #[.int .i64 a0_0, .slice A0_1 l0_1.length c0_1]] rfl AQ ?_; (with_reducible refine (impl_TableOk.calls k a0_0 _ _ l0_1 false _ ?side1 ?side2 A6.out).mono ?_); (case side1 => exact SC HR0_1); (case side2 => exact HC0_1.out); rintro e w15 ⟨rfl, hb⟩; refine ⟨_, rfl, ?_⟩; have n_ : _ ∧ _ ∧ _ := ⟨AsM (blk_below (BD BK548) hb), AsM (blk_below (BD BK549) hb), AsM (below_step BG hb)⟩; clear BK548 BK549 HB; obtain ⟨BK548, BK549, HB⟩ := n_; (try clear hb); (try clear hb2); (try clear hk); (try clear hi)))
   go_meet
   case rel => exact ⟨_, (true), RS, H', ⟨by first | omega | exact Nat.le_refl _⟩, ⟨BD BK548⟩, ⟨BD BK549⟩, ⟨by repeat (first | (with_reducible first | exact HB.out | apply below_alloc | apply pw_below_drewN | apply below_drew1 | refine below_set ?_ GE548.out | refine below_set ?_ GE549.out) | exact HB.out)⟩⟩
 case rest =>
  clear HC3
  try clear c1
  try clear p2
  try clear c7
  try clear c9
  try clear c13
  try clear hcz10_0
  try clear hcz10_1
  try clear hcz14_0
  try clear hcz14_1
  try clear hfz10_0
  try clear hfz10_1
  try clear hfz14_0
  try clear hfz14_1
  obtain ⟨kq, x15_2, rfl, HA, HJ2, BK548, BK549, HB⟩ := hcut
  cases kq with
  | zero => exact absurd HA.out (by simp [impl_Add.j0])
  | succ kj2 =>
   have H := HA.out
   clear HA
   simp only [impl_Add.j0] at H
   by_cases c16 : x15_2 = true
   ·subst c16
    replace H := IP H
    simp only [Option.some.injEq, Prod.mk.injEq] at H
    obtain ⟨rfl, rfl, rfl⟩ := H
    have hnb17 := NB549_548.out
    have hnc17 := NB548_549.out
    obtain ⟨hcz18_0, hcz18_1, hfz18_0, hfz18_1⟩ := bk2 BK549.out
    go_wp2
    refine bodyPost_ret (results_ct rfl _ _ gb549 25 #[.int .i64 0, .slice none 0 0] (0, 0) _ rfl (by refine PX ?_; refine blk_put (cs := #[.int .i64 0, .slice none 0 0]) ?_ 1 _ rfl; refine PX ?_; refine blk_put (cs := #[.int .i64 0, .slice none 0 0]) ?_ 0 _ rfl; exact BD BK549) Try.underlying25 rfl (by kernel_rfl)) rfl ?_
    exact ⟨_, ER, by first | exact Kd.R_nil _ _ _ _ _ | exact Kd.N_nil _ _ _ _ _ | exact Kd.V_nil _ _ _ _ _ | exact Kd.Q_nil _ _ _ _ _ | exact Kd.S_nil _ _ _ _ _, BG⟩
   ·replace c16 := Bool.eq_false_iff.mpr c16
    subst c16
    replace H := IN H
    replace H := BS H
    obtain ⟨t552, A190, H⟩ := H
    have A19 := Aside0.mk A190
    clear A190
    replace H := BS H
    obtain ⟨t553, A200, H⟩ := H
    have A20 := Aside0.mk A200
    clear A200
    replace H := BS H
    obtain ⟨⟨t554, t555⟩, A210, H⟩ := H
    have A21 := Aside0.mk A210
    clear A210
    have HC22 := Aside0.mk H
    clear H
    try go_wp2
    have n_ : _ ∧ _ ∧ _ := ⟨AsM (blk_drew BK548.out), AsM (blk_drew BK549.out), AsM (below_drew1 HB.out)⟩
    clear BK548 BK549 HB
    obtain ⟨BK548, BK549, HB⟩ := n_
    refine start_ (n := 9) (S := fun w' => w'.cell? ⟨gb548, 0, none⟩ = some (.int .i64 a0_0) ∧ w'.cell? ⟨gb548, 1, none⟩ = some (.slice A0_1 l0_1.length c0_1)) (ds := []) #[false, false, false, false, false, false, false, false, false] (by kernel_rfl) rfl rfl ⟨(blk_cell BK548.out 0).trans rfl, (blk_cell BK548.out 1).trans rfl⟩ (fun hHeld => ?_); refine with_tabW impl_Add.tab3 impl_Add.bits3 (fun HT_ HW_ => ?_)
    generalize wc.drew = w23 at BK548 BK549 HB hHeld ⊢
    refine PU (i := 1) (N := some 18) #[false, true, false, false, false, false, false, false, false] rfl rfl HT_ ?_
    refine PU (i := 3) (N := some 20) #[false, true, false, true, false, false, false, false, false] rfl rfl HT_ ?_
    refine PT (i := 0) (N := some 17) #[true, true, false, true, false, false, false, false, false] rfl rfl HT_ HW_ hHeld ?_
    refine PT (i := 4) (N := some 21) #[true, true, false, true, true, false, false, false, false] rfl rfl HT_ HW_ hHeld ?_
    refine join_ (σ := Value × Nat) 1 #[true, true, true, true, true, true, true, true, false] (fun s_ => [(19, .int .i64 t552), (22, .int .i64 t553), (23, .agg #[.int .i64 t554, s_.1]), (6, .pointer (some ⟨s_.2, 0, none⟩))]) (fun s_ w' => (w'.cell? ⟨gb548, 0, none⟩ = some (.int .i64 a0_0) ∧ w'.cell? ⟨gb548, 1, none⟩ = some (.slice A0_1 l0_1.length c0_1)) ∧ (Kd.R k49 49 w' w.heap.size (fun _ => True) s_.1 t555) ∧ (w'.heap[gb548]? = some (.cells #[.int .i64 a0_0, .slice A0_1 l0_1.length c0_1] 25 (0, 0))) ∧ (w'.heap[gb549]? = some (.cells #[.int .i64 0, .slice none 0 0] 25 (0, 0))) ∧ (w'.heap[s_.2]? = some (.cells #[.int .i64 0, .slice none 0 0] 25 (0, 0))) ∧ (w.heap.size ≤ s_.2) ∧ (w.heap.size ≤ s_.2) ∧ (gb548 ≠ s_.2) ∧ (s_.2 ≠ gb548) ∧ (gb549 ≠ s_.2) ∧ (s_.2 ≠ gb549) ∧ (Below w.heap.size w w')) ?_ ?_
    rotate_left
    ·intro hCont
     refine two_ (i := 2) (j := 7) (Ni := some 19) (Nj := some 6) #[true, true, true, true, true, false, false, false, false] #[true, true, false, true, true, false, false, true, false] rfl rfl rfl rfl (two_of HT_.out (by kernel_rfl)) (by decide) (by decide) (fun K hK => ?_) (fun K hK => ?_)
     ·skip
      refine goes_ Try.func19 (by kernel_rfl) rfl #[.string a1] (by rfl) rfl rfl AQ ?_
      with_reducible refine (impl_Hash.calls kj2 a1 t552 _ A19.out).mono ?_
      rintro e w' ⟨rfl, ⟨nd, rfl⟩⟩
      refine ⟨_, rfl, ?_⟩
      refine hK.out _ _ ⟨(blk_cell BK548.out 0).trans rfl, (blk_cell BK548.out 1).trans rfl⟩ (fun hHeld => ?_)
      clear hK K
      refine NM (some 19) ?_
      refine two_ (i := 5) (j := 7) (Ni := some 22) (Nj := some 6) #[true, true, true, true, true, true, false, false, false] #[true, true, true, true, true, false, false, true, false] rfl rfl rfl rfl (two_of HT_.out (by kernel_rfl)) (by decide) (by decide) (fun K hK => ?_) (fun K hK => ?_)
      ·skip
       refine goes_ Try.func18 (by kernel_rfl) rfl #[.int .i64 t552, .int .i64 a0_0] (by rfl) rfl rfl AQ ?_
       with_reducible refine (impl_Bucket.calls t552 a0_0 t553 _ A20.out).mono ?_
       rintro e w' ⟨rfl, ⟨nd, rfl⟩⟩
       refine ⟨_, rfl, ?_⟩
       refine hK.out _ _ ⟨(blk_cell BK548.out 0).trans rfl, (blk_cell BK548.out 1).trans rfl⟩ (fun hHeld => ?_)
       clear hK K
       refine NM (some 22) ?_
       refine two_ (i := 6) (j := 7) (Ni := some 23) (Nj := some 6) #[true, true, true, true, true, true, true, false, false] #[true, true, true, true, true, true, false, true, false] rfl rfl rfl rfl (two_of HT_.out (by kernel_rfl)) (by decide) (by decide) (fun K hK => ?_) (fun K hK => ?_)
       ·skip
        refine goes_ Try.func36 (by kernel_rfl) rfl #[.agg #[.int .i64 a0_0, .slice A0_1 l0_1.length c0_1], .int .i64 t553] (by rfl) rfl rfl AQ ?_
        with_reducible refine (impl_Table_opened.calls kj2 a0_0 _ _ l0_1 t553 t554 t555 _ ?side1 ?side2 A21.out).mono ?_
        (case side1 => repeat (first | exact (Kd.C_below HR0_1.out BG) | (with_reducible refine Kd.C_alloc ?_ _) | (with_reducible refine Kd.C_drewN ?_ _) | (with_reducible refine Kd.C_drew ?_)))
        (case side2 => exact HC0_1.out)
        rintro e w24 ⟨v556, rfl, ho0, hb⟩
        refine ⟨_, rfl, ?_⟩
        have n_ : _ ∧ _ ∧ _ ∧ _ := ⟨AsM (Kd.R_lower ho0 (below_size BG)), AsM (blk_below (BD BK548) hb), AsM (blk_below (BD BK549) hb), AsM (below_step BG hb)⟩
        clear BK548 BK549 HB
        obtain ⟨HO557, BK548, BK549, HB⟩ := n_
        (try clear hb)
        (try clear hb2)
        (try clear hk)
        (try clear hi)
        (try clear ho0)
        refine hK.out _ _ ⟨(blk_cell BK548.out 0).trans rfl, (blk_cell BK548.out 1).trans rfl⟩ (fun hHeld => ?_)
        clear hK K
        refine NM (some 23) ?_
        refine one_ (i := 7) (N := some 6) (tf 8 1) rfl rfl (one_of HT_.out (by kernel_rfl)) (by decide) (fun K hK => ?_)
        refine box_step ?hg (N := 6) ?hd (cs := #[.int .i64 0, .slice none 0 0]) (t := 25) ?hr ?_; (case hd => rfl); (case hg => rfl); (case hr => first | (go_simp; done) | (go_simp; rfl))
        intro gb558 hg w25 hbox hb
        have n_ : _ ∧ _ ∧ _ ∧ _ ∧ _ ∧ _ ∧ _ ∧ _ ∧ _ ∧ _ ∧ _ := ⟨AsM (Kd.R_below (RD HO557) hb), AsM (blk_below (BD BK548) hb), AsM (blk_below (BD BK549) hb), AsM (below_step BG hb), AsM (hbox), AsM ((GM : w.heap.size ≤ gb558)), AsM ((GM : w.heap.size ≤ gb558)), AsM ((impl_Add.z1 : gb548 ≠ gb558)), AsM ((impl_Add.z2 : gb558 ≠ gb548)), AsM ((impl_Add.z3 : gb549 ≠ gb558)), AsM ((impl_Add.z4 : gb558 ≠ gb549))⟩
        clear HO557 BK548 BK549 HB
        obtain ⟨HO557, BK548, BK549, HB, BK558, GW558, GE558, NB548_558, NB558_548, NB549_558, NB558_549⟩ := n_
        clear hb hbox hg
        refine hK.out _ _ ⟨(blk_cell BK548.out 0).trans rfl, (blk_cell BK548.out 1).trans rfl⟩ (fun hHeld => ?_)
        clear hK K
        refine NM (some 6) ?_
        exact norm_ (impl_Add.z0) (hCont (v556, gb558) _ ⟨hHeld, (RD HO557), (BD BK548), (BD BK549), (BD BK558), GW558.out, GE558.out, NB548_558.out, NB558_548.out, NB549_558.out, NB558_549.out, BG⟩)
       ·skip
        refine box_step ?hg (N := 6) ?hd (cs := #[.int .i64 0, .slice none 0 0]) (t := 25) ?hr ?_; (case hd => rfl); (case hg => rfl); (case hr => first | (go_simp; done) | (go_simp; rfl))
        intro gb558 hg w24 hbox hb
        have n_ : _ ∧ _ ∧ _ ∧ _ ∧ _ ∧ _ ∧ _ ∧ _ ∧ _ ∧ _ := ⟨AsM (blk_below (BD BK548) hb), AsM (blk_below (BD BK549) hb), AsM (below_step BG hb), AsM (hbox), AsM ((GM : w.heap.size ≤ gb558)), AsM ((GM : w.heap.size ≤ gb558)), AsM ((impl_Add.z1 : gb548 ≠ gb558)), AsM ((impl_Add.z2 : gb558 ≠ gb548)), AsM ((impl_Add.z3 : gb549 ≠ gb558)), AsM ((impl_Add.z4 : gb558 ≠ gb549))⟩
        clear BK548 BK549 HB
        obtain ⟨BK548, BK549, HB, BK558, GW558, GE558, NB548_558, NB558_548, NB549_558, NB558_549⟩ := n_
        clear hb hbox hg
        refine hK.out _ _ ⟨(blk_cell BK548.out 0).trans rfl, (blk_cell BK548.out 1).trans rfl⟩ (fun hHeld => ?_)
        clear hK K
        refine NM (some 6) ?_
        refine one_ (i := 6) (N := some 23) (tf 8 1) rfl rfl (one_of HT_.out (by kernel_rfl)) (by decide) (fun K hK => ?_)
        refine goes_ Try.func36 (by kernel_rfl) rfl #[.agg #[.int .i64 a0_0, .slice A0_1 l0_1.length c0_1], .int .i64 t553] (by rfl) rfl rfl AQ ?_
        with_reducible refine (impl_Table_opened.calls kj2 a0_0 _ _ l0_1 t553 t554 t555 _ ?side1 ?side2 A21.out).mono ?_
        (case side1 => exact SC HR0_1)
        (case side2 => exact HC0_1.out)
        rintro e w25 ⟨v556, rfl, ho0, hb⟩
        refine ⟨_, rfl, ?_⟩
        have n_ : _ ∧ _ ∧ _ ∧ _ ∧ _ := ⟨AsM (Kd.R_lower ho0 (below_size BG)), AsM (blk_below (BD BK548) hb), AsM (blk_below (BD BK549) hb), AsM (blk_below (BD BK558) hb), AsM (below_step BG hb)⟩
        clear BK548 BK549 BK558 HB
        obtain ⟨HO557, BK548, BK549, BK558, HB⟩ := n_
        (try clear hb)
        (try clear hb2)
        (try clear hk)
        (try clear hi)
        (try clear ho0)
        refine hK.out _ _ ⟨(blk_cell BK548.out 0).trans rfl, (blk_cell BK548.out 1).trans rfl⟩ (fun hHeld => ?_)
        clear hK K
        refine NM (some 23) ?_
        exact norm_ (impl_Add.z0) (hCont (v556, gb558) _ ⟨hHeld, (RD HO557), (BD BK548), (BD BK549), (BD BK558), GW558.out, GE558.out, NB548_558.out, NB558_548.out, NB549_558.out, NB558_549.out, BG⟩)
      ·skip
       refine box_step ?hg (N := 6) ?hd (cs := #[.int .i64 0, .slice none 0 0]) (t := 25) ?hr ?_; (case hd => rfl); (case hg => rfl); (case hr => first | (go_simp; done) | (go_simp; rfl))
       intro gb558 hg w24 hbox hb
       have n_ : _ ∧ _ ∧ _ ∧ _ ∧ _ ∧ _ ∧ _ ∧ _ ∧ _ ∧ _ := ⟨AsM (blk_below (BD BK548) hb), AsM (blk_below (BD BK549) hb), AsM (below_step BG hb), AsM (hbox), AsM ((GM : w.heap.size ≤ gb558)), AsM ((GM : w.heap.size ≤ gb558)), AsM ((impl_Add.z1 : gb548 ≠ gb558)), AsM ((impl_Add.z2 : gb558 ≠ gb548)), AsM ((impl_Add.z3 : gb549 ≠ gb558)), AsM ((impl_Add.z4 : gb558 ≠ gb549))⟩
       clear BK548 BK549 HB
       obtain ⟨BK548, BK549, HB, BK558, GW558, GE558, NB548_558, NB558_548, NB549_558, NB558_549⟩ := n_
       clear hb hbox hg
       refine hK.out _ _ ⟨(blk_cell BK548.out 0).trans rfl, (blk_cell BK548.out 1).trans rfl⟩ (fun hHeld => ?_)
       clear hK K
       refine NM (some 6) ?_
       refine one_ (i := 5) (N := some 22) #[true, true, true, true, true, true, false, true, false] rfl rfl (one_of HT_.out (by kernel_rfl)) (by decide) (fun K hK => ?_)
       refine goes_ Try.func18 (by kernel_rfl) rfl #[.int .i64 t552, .int .i64 a0_0] (by rfl) rfl rfl AQ ?_
       with_reducible refine (impl_Bucket.calls t552 a0_0 t553 _ A20.out).mono ?_
       rintro e w' ⟨rfl, ⟨nd, rfl⟩⟩
       refine ⟨_, rfl, ?_⟩
       refine hK.out _ _ ⟨(blk_cell BK548.out 0).trans rfl, (blk_cell BK548.out 1).trans rfl⟩ (fun hHeld => ?_)
       clear hK K
       refine NM (some 22) ?_
       refine one_ (i := 6) (N := some 23) (tf 8 1) rfl rfl (one_of HT_.out (by kernel_rfl)) (by decide) (fun K hK => ?_)
       refine goes_ Try.func36 (by kernel_rfl) rfl #[.agg #[.int .i64 a0_0, .slice A0_1 l0_1.length c0_1], .int .i64 t553] (by rfl) rfl rfl AQ ?_
       with_reducible refine (impl_Table_opened.calls kj2 a0_0 _ _ l0_1 t553 t554 t555 _ ?side1 ?side2 A21.out).mono ?_
       (case side1 => repeat (first | exact (Kd.C_below HR0_1.out BG) | (with_reducible refine Kd.C_alloc ?_ _) | (with_reducible refine Kd.C_drewN ?_ _) | (with_reducible refine Kd.C_drew ?_)))
       (case side2 => exact HC0_1.out)
       rintro e w25 ⟨v556, rfl, ho0, hb⟩
       refine ⟨_, rfl, ?_⟩
       have n_ : _ ∧ _ ∧ _ ∧ _ ∧ _ := ⟨AsM (Kd.R_lower ho0 (below_size BG)), AsM (blk_below (BD BK548) hb), AsM (blk_below (BD BK549) hb), AsM (blk_below (BD BK558) hb), AsM (below_step BG hb)⟩
       clear BK548 BK549 BK558 HB
       obtain ⟨HO557, BK548, BK549, BK558, HB⟩ := n_
       (try clear hb)
       (try clear hb2)
       (try clear hk)
       (try clear hi)
       (try clear ho0)
       refine hK.out _ _ ⟨(blk_cell BK548.out 0).trans rfl, (blk_cell BK548.out 1).trans rfl⟩ (fun hHeld => ?_)
       clear hK K
       refine NM (some 23) ?_
       exact norm_ (impl_Add.z0) (hCont (v556, gb558) _ ⟨hHeld, (RD HO557), (BD BK548), (BD BK549), (BD BK558), GW558.out, GE558.out, NB548_558.out, NB558_548.out, NB549_558.out, NB558_549.out, BG⟩)
     ·skip
      refine box_step ?hg (N := 6) ?hd (cs := #[.int .i64 0, .slice none 0 0]) (t := 25) ?hr ?_; (case hd => rfl); (case hg => rfl); (case hr => first | (go_simp; done) | (go_simp; rfl))
      intro gb558 hg w24 hbox hb
      have n_ : _ ∧ _ ∧ _ ∧ _ ∧ _ ∧ _ ∧ _ ∧ _ ∧ _ ∧ _ := ⟨AsM (blk_below (BD BK548) hb), AsM (blk_below (BD BK549) hb), AsM (below_step BG hb), AsM (hbox), AsM ((GM : w.heap.size ≤ gb558)), AsM ((GM : w.heap.size ≤ gb558)), AsM ((impl_Add.z1 : gb548 ≠ gb558)), AsM ((impl_Add.z2 : gb558 ≠ gb548)), AsM ((impl_Add.z3 : gb549 ≠ gb558)), AsM ((impl_Add.z4 : gb558 ≠ gb549))⟩
      clear BK548 BK549 HB
      obtain ⟨BK548, BK549, HB, BK558, GW558, GE558, NB548_558, NB558_548, NB549_558, NB558_549⟩ := n_
      clear hb hbox hg
      refine hK.out _ _ ⟨(blk_cell BK548.out 0).trans rfl, (blk_cell BK548.out 1).trans rfl⟩ (fun hHeld => ?_)
      clear hK K
      refine NM (some 6) ?_
      refine one_ (i := 2) (N := some 19) #[true, true, true, true, true, false, false, true, false] rfl rfl (one_of HT_.out (by kernel_rfl)) (by decide) (fun K hK => ?_)
      refine goes_ Try.func19 (by kernel_rfl) rfl #[.string a1] (by rfl) rfl rfl AQ ?_
      with_reducible refine (impl_Hash.calls kj2 a1 t552 _ A19.out).mono ?_
      rintro e w' ⟨rfl, ⟨nd, rfl⟩⟩
      refine ⟨_, rfl, ?_⟩
      refine hK.out _ _ ⟨(blk_cell BK548.out 0).trans rfl, (blk_cell BK548.out 1).trans rfl⟩ (fun hHeld => ?_)
      clear hK K
      refine NM (some 19) ?_
      refine one_ (i := 5) (N := some 22) #[true, true, true, true, true, true, false, true, false] rfl rfl (one_of HT_.out (by kernel_rfl)) (by decide) (fun K hK => ?_)
      refine goes_ Try.func18 (by kernel_rfl) rfl #[.int .i64 t552, .int .i64 a0_0] (by rfl) rfl rfl AQ ?_
      with_reducible refine (impl_Bucket.calls t552 a0_0 t553 _ A20.out).mono ?_
      rintro e w' ⟨rfl, ⟨nd, rfl⟩⟩
      refine ⟨_, rfl, ?_⟩
      refine hK.out _ _ ⟨(blk_cell BK548.out 0).trans rfl, (blk_cell BK548.out 1).trans rfl⟩ (fun hHeld => ?_)
      clear hK K
      refine NM (some 22) ?_
      refine one_ (i := 6) (N := some 23) (tf 8 1) rfl rfl (one_of HT_.out (by kernel_rfl)) (by decide) (fun K hK => ?_)
      refine goes_ Try.func36 (by kernel_rfl) rfl #[.agg #[.int .i64 a0_0, .slice A0_1 l0_1.length c0_1], .int .i64 t553] (by rfl) rfl rfl AQ ?_
      with_reducible refine (impl_Table_opened.calls kj2 a0_0 _ _ l0_1 t553 t554 t555 _ ?side1 ?side2 A21.out).mono ?_
      (case side1 => repeat (first | exact (Kd.C_below HR0_1.out BG) | (with_reducible refine Kd.C_alloc ?_ _) | (with_reducible refine Kd.C_drewN ?_ _) | (with_reducible refine Kd.C_drew ?_)))
      (case side2 => exact HC0_1.out)
      rintro e w25 ⟨v556, rfl, ho0, hb⟩
      refine ⟨_, rfl, ?_⟩
      have n_ : _ ∧ _ ∧ _ ∧ _ ∧ _ := ⟨AsM (Kd.R_lower ho0 (below_size BG)), AsM (blk_below (BD BK548) hb), AsM (blk_below (BD BK549) hb), AsM (blk_below (BD BK558) hb), AsM (below_step BG hb)⟩
      clear BK548 BK549 BK558 HB
      obtain ⟨HO557, BK548, BK549, BK558, HB⟩ := n_
      (try clear hb)
      (try clear hb2)
      (try clear hk)
      (try clear hi)
      (try clear ho0)
      refine hK.out _ _ ⟨(blk_cell BK548.out 0).trans rfl, (blk_cell BK548.out 1).trans rfl⟩ (fun hHeld => ?_)
      clear hK K
      refine NM (some 23) ?_
      exact norm_ (impl_Add.z0) (hCont (v556, gb558) _ ⟨hHeld, (RD HO557), (BD BK548), (BD BK549), (BD BK558), GW558.out, GE558.out, NB548_558.out, NB558_548.out, NB549_558.out, NB558_549.out, BG⟩)
    rintro ⟨v556, gb558⟩ w26 ⟨hS_, h0_, h1_, h2_, h3_, h4_, h5_, h6_, h7_, h8_, h9_, h10_⟩
    have n0_ : Aside0 (Kd.R k49 49 w26 w.heap.size (fun _ => True) v556 t555) := ⟨h0_⟩
    have n1_ : Aside0 (w26.heap[gb548]? = some (.cells #[.int .i64 a0_0, .slice A0_1 l0_1.length c0_1] 25 (0, 0))) := ⟨h1_⟩
    have n2_ : Aside0 (w26.heap[gb549]? = some (.cells #[.int .i64 0, .slice none 0 0] 25 (0, 0))) := ⟨h2_⟩
    have n3_ : Aside0 (w26.heap[gb558]? = some (.cells #[.int .i64 0, .slice none 0 0] 25 (0, 0))) := ⟨h3_⟩
    have n4_ : Aside0 (w.heap.size ≤ gb558) := ⟨h4_⟩
    have n5_ : Aside0 (w.heap.size ≤ gb558) := ⟨h5_⟩
    have n6_ : Aside0 (gb548 ≠ gb558) := ⟨h6_⟩
    have n7_ : Aside0 (gb558 ≠ gb548) := ⟨h7_⟩
    have n8_ : Aside0 (gb549 ≠ gb558) := ⟨h8_⟩
    have n9_ : Aside0 (gb558 ≠ gb549) := ⟨h9_⟩
    have n10_ : Aside0 (Below w.heap.size w w26) := ⟨h10_⟩
    clear BK548
    clear BK549
    clear HB
    clear h0_ h1_ h2_ h3_ h4_ h5_ h6_ h7_ h8_ h9_ h10_
    have HO557 := n0_
    have BK548 := n1_
    have BK549 := n2_
    have BK558 := n3_
    have GW558 := n4_
    have GE558 := n5_
    have NB548_558 := n6_
    have NB558_548 := n7_
    have NB549_558 := n8_
    have NB558_549 := n9_
    have HB := n10_
    clear n0_ n1_ n2_ n3_ n4_ n5_ n6_ n7_ n8_ n9_ n10_
    have hHeld : w26.cell? ⟨gb548, 0, none⟩ = some (.int .i64 a0_0) ∧ w26.cell? ⟨gb548, 1, none⟩ = some (.slice A0_1 l0_1.length c0_1) := hS_
    obtain ⟨Ao28, co28, eo28⟩ := Kd.R_slice HO557.out
    (first | subst eo28 | (injection eo28 with f1_ f2_ f3_; have f4_ := f1_.symm; have f5_ := f3_.symm; clear f1_ f2_ f3_; subst f4_; subst f5_))
    refine norm_ (a' := ?_) ?_ ?_
    rotate_left
    ·simp only [putAll, Act.put, List.setIfInBounds_toArray, List.set_cons_zero, List.set_cons_succ]
     rfl
    refine one_ (i := 8) (N := none) (tf 9 0) rfl rfl (one_of HT_.out (by kernel_rfl)) (by decide) (fun K hK => ?_)
    have hs27 : w26.cell? ⟨gb558, 0, none⟩ = some (.int .i64 0) := (blk_cell BK558.out 0).trans rfl
    have hfs27 := blk_frozen BK558.out 0
    have hns27_0 := NB548_558.out
    have hns27_1 := NB549_558.out
    have hms27_0 := NB558_548.out
    have hms27_1 := NB558_549.out
    have hs29 : w26.cell? ⟨gb558, 1, none⟩ = some (.slice none 0 0) := (blk_cell BK558.out 1).trans rfl
    have hfs29 := blk_frozen BK558.out 1
    have hns29_0 := NB548_558.out
    have hns29_1 := NB549_558.out
    have hms29_0 := NB558_548.out
    have hms29_1 := NB558_549.out
    refine skip_ (w1 := ?_) (by rfl) rfl ?_ ?_
    rotate_left
    ·go_simp
     rfl
    refine hK.out _ _ ⟨((cell_far (p := ⟨gb558, _, none⟩) NB548_558.out _).trans (((cell_far (p := ⟨gb558, _, none⟩) NB548_558.out _).trans (hHeld.1)))), ((cell_far (p := ⟨gb558, _, none⟩) NB548_558.out _).trans (((cell_far (p := ⟨gb558, _, none⟩) NB548_558.out _).trans (hHeld.2))))⟩ (fun hHeld => ?_)
    clear hK K
    refine done_ (done_of HT_.out (by kernel_rfl)) ?_
    go_upto_region 4 with (fail)
    go_cut [31] (fun v31 wc => ∃ (kq : Nat) (x31_21 : Bool), v31 = .bool x31_21 ∧ Aside0 (impl_Add.j1 kq a1 x31_21 t554 t555 = some (r1, r2, r3)) ∧ Aside0 (kq ≤ kj2) ∧ Aside0 (Kd.R k49 49 wc w.heap.size (fun _ => True) (.slice Ao28 t555.length co28) t555) ∧ Aside0 (wc.heap[gb548]? = some (.cells #[.int .i64 a0_0, (.slice A0_1 l0_1.length c0_1)] 25 (0, 0))) ∧ Aside0 (wc.heap[gb549]? = some (.cells #[.int .i64 0, (.slice none 0 0)] 25 (0, 0))) ∧ Aside0 (wc.heap[gb558]? = some (.cells #[.int .i64 t554, (.slice Ao28 t555.length co28)] 25 (0, 0))) ∧ Aside0 (Below w.heap.size w wc))
    case first =>
     have H := HC22.out
     clear HC22
     replace H := BS H
     obtain ⟨t559, A300, H⟩ := H
     have A30 := Aside0.mk A300
     clear A300
     by_cases c31 : t559 = true
     ·subst c31
      replace H := IP H
      have H' := Aside0.mk H
      clear H
      have hnb32 := NB548_549.out
      have hnc32 := NB549_548.out
      have hnb33 := NB548_558.out
      have hnc33 := NB558_548.out
      obtain ⟨hcz34_0, hcz34_1, hfz34_0, hfz34_1⟩ := bk2 BK548.out
      go_wp2_with (first | ((with_reducible refine gate_callee (f := 10) rfl ?_); refine goesL_ (some 26) rfl rfl Try.func10 (by kernel_rfl) rfl #[.agg #[.int .i64 a0_0, .slice A0_1 l0_1.length c0_1], .string a1] rfl AQ ?_; (with_reducible refine (impl_Has.calls kj2 a0_0 _ _ l0_1 a1 true _ ?side1 ?side2 A30.out).mono ?_); (case side1 => exact Kd.C_below HR0_1.out BG); (case side2 => exact HC0_1.out); rintro e w35 ⟨rfl, hb⟩; refine ⟨_, rfl, ?_⟩; have n_ : _ ∧ _ ∧ _ ∧ _ ∧ _ := ⟨AsM (Kd.R_below (by refine PRx ?_; exact (FM (FR (FR (Kd.R_types HO557.out BK558.out (by decide)))))) hb), AsM (blk_below (g := gb548) (o := .cells #[.int .i64 a0_0, .slice A0_1 l0_1.length c0_1] 25 (0, 0)) (by refine PX ?_; refine blk_far ?_ NB548_558.out _; refine PX ?_; refine blk_far ?_ NB548_558.out _; exact BD BK548) hb), AsM (blk_below (g := gb549) (o := .cells #[.int .i64 0, .slice none 0 0] 25 (0, 0)) (by refine PX ?_; refine blk_far ?_ NB549_558.out _; refine PX ?_; refine blk_far ?_ NB549_558.out _; exact BD BK549) hb), AsM (blk_below (g := gb558) (o := .cells #[.int .i64 t554, .slice Ao28 t555.length co28] 25 (0, 0)) (by refine PX ?_; refine blk_put (cs := #[.int .i64 t554, .slice none 0 0]) ?_ 1 _ rfl; refine PX ?_; refine blk_put (cs := #[.int .i64 0, .slice none 0 0]) ?_ 0 _ rfl; exact BD BK558) hb), AsM (below_step BG hb)⟩; clear HO557 BK548 BK549 BK558 HB; obtain ⟨HO557, BK548, BK549, BK558, HB⟩ := n_; (try clear hb); (try clear hb2); (try clear hk); (try clear hi)))
      go_meet
      case rel => exact ⟨_, (true), RS, H', ⟨by have := HJ2.out; first | omega | exact Nat.le_refl _⟩, ⟨RD HO557⟩, ⟨BD BK548⟩, ⟨BD BK549⟩, ⟨BD BK558⟩, ⟨by repeat (first | (with_reducible first | exact HB.out | apply below_alloc | apply pw_below_drewN | apply below_drew1 | refine below_set ?_ GE548.out | refine below_set ?_ GE549.out | refine below_set ?_ GE558.out) | exact HB.out)⟩⟩
     ·replace c31 := Bool.eq_false_iff.mpr c31
      subst c31
      replace H := IN H
      replace H := BS H
      obtain ⟨t560, A360, H⟩ := H
      have A36 := Aside0.mk A360
      clear A360
      have H' := Aside0.mk H
      clear H
      have hnb37 := NB548_549.out
      have hnc37 := NB549_548.out
      have hnb38 := NB548_558.out
      have hnc38 := NB558_548.out
      obtain ⟨hcz39_0, hcz39_1, hfz39_0, hfz39_1⟩ := bk2 BK548.out
      go_wp2_with (first | ((with_reducible refine gate_callee (f := 10) rfl ?_); refine goesL_ (some 26) rfl rfl Try.func10 (by kernel_rfl) rfl #[.agg #[.int .i64 a0_0, .slice A0_1 l0_1.length c0_1], .string a1] rfl AQ ?_; (with_reducible refine (impl_Has.calls kj2 a0_0 _ _ l0_1 a1 false _ ?side1 ?side2 A30.out).mono ?_); (case side1 => exact Kd.C_below HR0_1.out BG); (case side2 => exact HC0_1.out); rintro e w40 ⟨rfl, hb⟩; refine ⟨_, rfl, ?_⟩; have n_ : _ ∧ _ ∧ _ ∧ _ ∧ _ := ⟨AsM (Kd.R_below (by refine PRx ?_; exact (FM (FR (FR (Kd.R_types HO557.out BK558.out (by decide)))))) hb), AsM (blk_below (g := gb548) (o := .cells #[.int .i64 a0_0, .slice A0_1 l0_1.length c0_1] 25 (0, 0)) (by refine PX ?_; refine blk_far ?_ NB548_558.out _; refine PX ?_; refine blk_far ?_ NB548_558.out _; exact BD BK548) hb), AsM (blk_below (g := gb549) (o := .cells #[.int .i64 0, .slice none 0 0] 25 (0, 0)) (by refine PX ?_; refine blk_far ?_ NB549_558.out _; refine PX ?_; refine blk_far ?_ NB549_558.out _; exact BD BK549) hb), AsM (blk_below (g := gb558) (o := .cells #[.int .i64 t554, .slice Ao28 t555.length co28] 25 (0, 0)) (by refine PX ?_; refine blk_put (cs := #[.int .i64 t554, .slice none 0 0]) ?_ 1 _ rfl; refine PX ?_; refine blk_put (cs := #[.int .i64 0, .slice none 0 0]) ?_ 0 _ rfl; exact BD BK558) hb), AsM (below_step BG hb)⟩; clear HO557 BK548 BK549 BK558 HB; obtain ⟨HO557, BK548, BK549, BK558, HB⟩ := n_; (try clear hb); (try clear hb2); (try clear hk); (try clear hi); obtain ⟨hcz41_0, hcz41_1, hfz41_0, hfz41_1⟩ := bk2 BK548.out) | (go_at_call 24; (with_reducible refine (impl_Table_keysIn.calls kj2 a0_0 _ _ l0_1 t560 _ ?side1 ?side2 A36.out).mono ?_); (case side1 => exact SC HR0_1); (case side2 => exact HC0_1.out); rintro e w42 ⟨rfl, hb⟩; have n_ : _ ∧ _ ∧ _ ∧ _ ∧ _ := ⟨AsM (Kd.R_below (RD HO557) hb), AsM (blk_below (BD BK548) hb), AsM (blk_below (BD BK549) hb), AsM (blk_below (BD BK558) hb), AsM (below_step BG hb)⟩; clear HO557 BK548 BK549 BK558 HB; obtain ⟨HO557, BK548, BK549, BK558, HB⟩ := n_; (try clear hb); (try clear hb2); (try clear hk); (try clear hi)))
      go_meet
      case rel => exact ⟨_, ((t560 == 200)), RS, H', ⟨by have := HJ2.out; first | omega | exact Nat.le_refl _⟩, ⟨RD HO557⟩, ⟨BD BK548⟩, ⟨BD BK549⟩, ⟨BD BK558⟩, ⟨by repeat (first | (with_reducible first | exact HB.out | apply below_alloc | apply pw_below_drewN | apply below_drew1 | refine below_set ?_ GE548.out | refine below_set ?_ GE549.out | refine below_set ?_ GE558.out) | exact HB.out)⟩⟩
    case rest =>
     clear HC22
     try clear c1
     try clear p2
     try clear c3
     try clear c7
     try clear c9
     try clear c10
     try clear c13
     try clear c16
     try clear c17
     try clear c18
     try clear c19
     try clear c31
     try clear c32
     try clear c33
     try clear c36
     try clear c37
     try clear c38
     try clear hcz10_0
     try clear hcz10_1
     try clear hcz14_0
     try clear hcz14_1
     try clear hcz18_0
     try clear hcz18_1
     try clear hcz34_0
     try clear hcz34_1
     try clear hcz39_0
     try clear hcz39_1
     try clear hcz41_0
     try clear hcz41_1
     try clear hfz10_0
     try clear hfz10_1
     try clear hfz14_0
     try clear hfz14_1
     try clear hfz18_0
     try clear hfz18_1
     try clear hfz34_0
     try clear hfz34_1
     try clear hfz39_0
     try clear hfz39_1
     try clear hfz41_0
     try clear hfz41_1
     try clear p2
     obtain ⟨kq, x31_21, rfl, HA, HJ21, HO_559001, BK548, BK549, BK558, HB⟩ := hcut
     cases kq with
     | zero => exact absurd HA.out (by simp [impl_Add.j1])
     | succ kj21 =>
      have H := HA.out
      clear HA
      simp only [impl_Add.j1] at H
      by_cases c43 : x31_21 = true
      ·subst c43
       replace H := IP H
       simp only [Option.some.injEq, Prod.mk.injEq] at H
       obtain ⟨rfl, rfl, rfl⟩ := H
       have hnb44 := NB558_548.out
       have hnc44 := NB548_558.out
       have hnb45 := NB558_549.out
       have hnc45 := NB549_558.out
       obtain ⟨hcz46_0, hcz46_1, hfz46_0, hfz46_1⟩ := bk2 BK558.out
       have hnb47 := NB549_548.out
       have hnc47 := NB548_549.out
       obtain ⟨hcz48_0, hcz48_1, hfz48_0, hfz48_1⟩ := bk2 BK549.out
       go_wp2
       refine bodyPost_ret (results_ct rfl _ _ gb549 25 #[.int .i64 t554, .slice Ao28 t555.length co28] (0, 0) _ rfl (by refine PX ?_; refine blk_put (cs := #[.int .i64 t554, .slice none 0 0]) ?_ 1 _ rfl; refine PX ?_; refine blk_put (cs := #[.int .i64 0, .slice none 0 0]) ?_ 0 _ rfl; exact BD BK549) Try.underlying25 rfl (by kernel_rfl)) rfl ?_
       exact ⟨_, ER, by refine PRx ?_; exact Kd.R_mono (FR (FR (Kd.R_types HO_559001.out BK549.out (by decide)))) (fun _ hk => trivial), BG⟩
      ·replace c43 := Bool.eq_false_iff.mpr c43
       subst c43
       replace H := IN H
       replace H := BS H
       obtain ⟨⟨t561, t562⟩, A490, H⟩ := H
       have A49 := Aside0.mk A490
       clear A490
       replace H := BS H
       obtain ⟨⟨t563, t564⟩, A500, H⟩ := H
       have A50 := Aside0.mk A500
       clear A500
       simp only [Option.some.injEq, Prod.mk.injEq] at H
       obtain ⟨rfl, rfl, rfl⟩ := H
       try go_wp2
       have n_ : _ ∧ _ ∧ _ ∧ _ ∧ _ := ⟨AsM (Kd.R_drew HO_559001.out), AsM (blk_drew BK548.out), AsM (blk_drew BK549.out), AsM (blk_drew BK558.out), AsM (below_drew1 HB.out)⟩
       clear HO_559001 BK548 BK549 BK558 HB
       obtain ⟨HO_559001, BK548, BK549, BK558, HB⟩ := n_
       refine start_ (n := 6) (S := fun w' => w'.cell? ⟨gb558, 0, none⟩ = some (.int .i64 t554) ∧ w'.cell? ⟨gb558, 1, none⟩ = some (.slice Ao28 t555.length co28)) (ds := []) #[false, false, false, false, false, false] (by kernel_rfl) rfl rfl ⟨(blk_cell BK558.out 0).trans rfl, (blk_cell BK558.out 1).trans rfl⟩ (fun hHeld => ?_)
       generalize wc.drew = w51 at HO_559001 BK548 BK549 BK558 HB hHeld ⊢
       refine PV (i := 1) (N := some 34) #[false, true, false, false, false, false] rfl rfl ?_
       refine PK (i := 0) (N := some 33) (tf 2 4) rfl rfl hHeld ?_
       refine one_ (i := 2) (N := some 35) (tf 3 3) rfl rfl (by kernel_rfl) (by decide) (fun K hK => ?_)
       refine goes_ Try.func27 (by kernel_rfl) rfl #[.string a1] (by rfl) rfl rfl AQ ?_
       with_reducible refine (impl_entryOf.calls kj21 a1 t561 t562 _ A49.out).mono ?_
       rintro e w52 ⟨rfl, hb⟩
       refine ⟨_, rfl, ?_⟩
       have n_ : _ ∧ _ ∧ _ ∧ _ ∧ _ := ⟨AsM (Kd.R_below (RD HO_559001) hb), AsM (blk_below (BD BK548) hb), AsM (blk_below (BD BK549) hb), AsM (blk_below (BD BK558) hb), AsM (below_step BG hb)⟩
       clear HO_559001 BK548 BK549 BK558 HB
       obtain ⟨HO_559001, BK548, BK549, BK558, HB⟩ := n_
       (try clear hb)
       (try clear hb2)
       (try clear hk)
       (try clear hi)
       refine hK.out _ _ ⟨(blk_cell BK558.out 0).trans rfl, (blk_cell BK558.out 1).trans rfl⟩ (fun hHeld => ?_)
       clear hK K
       refine NM (some 35) ?_
       refine one_ (i := 3) (N := some 36) (tf 4 2) rfl rfl (by kernel_rfl) (by decide) (fun K hK => ?_)
       refine goes_ Try.func37 (by kernel_rfl) rfl #[.agg #[.int .i64 t554, .slice Ao28 t555.length co28], .agg #[.int .i64 t561, .string t562]] (by rfl) rfl rfl AQ ?_
       with_reducible refine (impl_Table_with.calls kj21 t554 _ _ t555 t561 t562 t563 t564 _ ?side1 ?side2 A50.out).mono ?_
       (case side1 => exact SR HO_559001)
       (case side2 => exact (Kd.R_reads' HO_559001.out).2.1)
       rintro e w53 ⟨v565, rfl, ho0, hb⟩
       refine ⟨_, rfl, ?_⟩
       have n_ : _ ∧ _ ∧ _ ∧ _ ∧ _ ∧ _ := ⟨AsM (Kd.R_elder' (RD HO_559001) (Kd.R_base ho0) hb), AsM (Kd.R_lower (Kd.R_new' ho0 (Kd.R_lt (RD HO_559001))) (below_size BG)), AsM (blk_below (BD BK548) hb), AsM (blk_below (BD BK549) hb), AsM (blk_below (BD BK558) hb), AsM (below_step BG hb)⟩
       clear HO_559001 BK548 BK549 BK558 HB
       obtain ⟨HO_559001, HO566, BK548, BK549, BK558, HB⟩ := n_
       (try clear hb)
       (try clear hb2)
       (try clear hk)
       (try clear hi)
       (try clear ho0)
       obtain ⟨Ao55, co55, eo55⟩ := Kd.R_slice HO566.out
       (first | subst eo55 | (injection eo55 with f1_ f2_ f3_; have f4_ := f1_.symm; have f5_ := f3_.symm; clear f1_ f2_ f3_; subst f4_; subst f5_))
       refine hK.out _ _ ⟨(blk_cell BK558.out 0).trans rfl, (blk_cell BK558.out 1).trans rfl⟩ (fun hHeld => ?_)
       clear hK K
       refine NM (some 36) ?_
       refine one_ (i := 4) (N := none) (tf 5 1) rfl rfl (by kernel_rfl) (by decide) (fun K hK => ?_)
       have hs54 : w53.cell? ⟨gb549, 0, none⟩ = some (.int .i64 0) := (blk_cell BK549.out 0).trans rfl
       have hfs54 := blk_frozen BK549.out 0
       have hns54_0 := NB548_549.out
       have hns54_2 := NB558_549.out
       have hms54_0 := NB549_548.out
       have hms54_2 := NB549_558.out
       have hs56 : w53.cell? ⟨gb549, 1, none⟩ = some (.slice none 0 0) := (blk_cell BK549.out 1).trans rfl
       have hfs56 := blk_frozen BK549.out 1
       have hns56_0 := NB548_549.out
       have hns56_2 := NB558_549.out
       have hms56_0 := NB549_548.out
       have hms56_2 := NB549_558.out
       refine skip_ (w1 := ?_) (by rfl) rfl ?_ ?_
       rotate_left
       ·go_simp
        rfl
       refine hK.out _ _ ⟨((cell_far (p := ⟨gb549, _, none⟩) NB558_549.out _).trans (((cell_far (p := ⟨gb549, _, none⟩) NB558_549.out _).trans (hHeld.1)))), ((cell_far (p := ⟨gb549, _, none⟩) NB558_549.out _).trans (((cell_far (p := ⟨gb549, _, none⟩) NB558_549.out _).trans (hHeld.2))))⟩ (fun hHeld => ?_)
       clear hK K
       refine PV (i := 5) (N := some 5) (tf 6 0) rfl rfl ?_
       refine done_ (by kernel_rfl) ?_
       try go_wp2
       refine bodyPost_ret (results_ct rfl _ _ gb549 25 #[.int .i64 t563, .slice Ao55 t564.length co55] (0, 0) _ rfl (by refine PX ?_; refine blk_put (cs := #[.int .i64 t563, .slice none 0 0]) ?_ 1 _ rfl; refine PX ?_; refine blk_put (cs := #[.int .i64 0, .slice none 0 0]) ?_ 0 _ rfl; exact BD BK549) Try.underlying25 rfl (by kernel_rfl)) rfl ?_
       exact ⟨_, ER, by refine PRx ?_; exact Kd.R_mono (FR (FR (Kd.R_types HO566.out BK549.out (by decide)))) (fun _ hk => trivial), BG⟩
def impl_Grow.f (k : Nat) (a0_0 : Int) (l0_1 : List (S49)) : Option (Int × (List (S49)) × Bool) := (impl_TableOk.f k a0_0 l0_1).bind fun t569 => (if t569 = true then ((impl_copyTable.f a0_0 l0_1).bind fun bt570 => (if a0_0 = 64 then (some (bt570.1, bt570.2, false)) else (some (wrap64 (2 * a0_0), bt570.2, true)))) else (some (0, ([] : List (S49)), false)))
theorem impl_Grow.mono : ∀ a0 a1 k, LeO (impl_Grow.f k a0 a1) (impl_Grow.f (k + 1) a0 a1) := by
 intro a0 a1 k
 unfold impl_Grow.f
 repeat' first | (with_reducible first | exact impl_TableOk.mono _ _ _ | exact LeO.refl _ | exact LeO.none _ | refine LeO.ite ?_ ?_ | refine LeO.bind ?_ (fun _ => ?_)) | exact impl_TableOk.mono _ _ _ | exact LeO.none _ | refine LeO.ite ?_ ?_ | refine LeO.bind ?_ (fun _ => ?_)
theorem impl_Grow.z0 {P : Prop} (h : P := by rw [hg]; exact Nat.ne_of_lt (blk_lt (BD BK567))) : P := h
theorem impl_Grow.z1 {P : Prop} (h : P := by rw [hg]; exact Nat.ne_of_gt (blk_lt (BD BK567))) : P := h
set_option maxHeartbeats 8000000 in
set_option maxRecDepth 100000 in
theorem impl_Grow.calls (k : Nat) (a0_0 : Int) (A0_1 : Option Addr) (c0_1 : Nat) (l0_1 : List (S49)) (r1 : Int) (r2 : List (S49)) (r3 : Bool) (w : World) (hr0_1 : Kd.C k49 w A0_1 l0_1.length l0_1) (hc0_1 : l0_1.length ≤ c0_1) (h : impl_Grow.f k a0_0 l0_1 = some (r1, r2, r3)) :
  Calls Try.prog 14 #[.agg #[.int .i64 a0_0, .slice A0_1 l0_1.length c0_1]] w fun e w' => ∃ v1_ : Value, e = .returned (.tuple #[.agg #[.int .i64 r1, v1_], .bool r3]) ∧ Kd.R k49 49 w' w.heap.size (fun _ => True) v1_ r2 ∧ Below w.heap.size w w' := by
 have hu25 := Try.underlying25
 have HR0_1 := Aside0.mk hr0_1
 have HC0_1 := Aside0.mk hc0_1
 clear hr0_1 hc0_1
 have HB := Aside0.mk (Below.refl w.heap.size w)
 have H : ((impl_TableOk.f k a0_0 l0_1).bind fun t569 => (if t569 = true then ((impl_copyTable.f a0_0 l0_1).bind fun bt570 => (if a0_0 = 64 then (some (bt570.1, bt570.2, false)) else (some (wrap64 (2 * a0_0), bt570.2, true)))) else (some (0, ([] : List (S49)), false)))) = some (r1, r2, r3) := h
 clear h
 replace H := BS H
 obtain ⟨t569, A20, H⟩ := H
 have A2 := Aside0.mk A20
 clear A20
 by_cases c3 : t569 = true
 ·subst c3
  replace H := IP H
  replace H := BS H
  obtain ⟨⟨t570, t571⟩, A40, H⟩ := H
  have A4 := Aside0.mk A40
  clear A40
  by_cases c5 : a0_0 = 64
  ·rw [if_pos c5] at H
   have c5b0 : (a0_0 == 64) = true := beq_iff_eq.mpr c5
   have c5b1 : (a0_0 != 64) = false := bne_eq_false_iff_eq.mpr c5
   clear c5
   simp only [Option.some.injEq, Prod.mk.injEq] at H
   obtain ⟨rfl, rfl, rfl⟩ := H
   go_enter Try.func14, Try.ntmps14
   go_wp2_with (first | ((with_reducible refine gate_dst (N := 1) rfl ?_); refine box_event ?hg (N := 1) ?hd (cs := #[.int .i64 a0_0, .slice A0_1 l0_1.length c0_1]) (t := 25) ?hr ?_; (case hd => rfl); (case hg => rfl); (case hr => first | (go_simp; done) | (go_simp; rfl)); intro gb567 hg w6 hbox hb; have n_ : _ ∧ _ ∧ _ ∧ _ := ⟨AsM (below_step BL hb), AsM (hbox), AsM ((GL : w.heap.size ≤ gb567)), AsM ((GL : w.heap.size ≤ gb567))⟩; clear HB; obtain ⟨HB, BK567, GW567, GE567⟩ := n_; clear hb hbox hg) | ((with_reducible refine gate_dst (N := 2) rfl ?_); refine box_event ?hg (N := 2) ?hd (cs := #[.int .i64 0, .slice none 0 0]) (t := 25) ?hr ?_; (case hd => rfl); (case hg => rfl); (case hr => first | (go_simp; done) | (go_simp; rfl)); intro gb568 hg w7 hbox hb; have n_ : _ ∧ _ ∧ _ ∧ _ ∧ _ ∧ _ ∧ _ := ⟨AsM (blk_below (BD BK567) hb), AsM (below_step BG hb), AsM (hbox), AsM ((GM : w.heap.size ≤ gb568)), AsM ((GM : w.heap.size ≤ gb568)), AsM ((impl_Grow.z0 : gb567 ≠ gb568)), AsM ((impl_Grow.z1 : gb568 ≠ gb567))⟩; clear BK567 HB; obtain ⟨BK567, HB, BK568, GW568, GE568, NB567_568, NB568_567⟩ := n_; clear hb hbox hg; have hnb8 := NB567_568.out; have hnc8 := NB568_567.out; obtain ⟨hcz9_0, hcz9_1, hfz9_0, hfz9_1⟩ := bk2 BK567.out) | ((with_reducible refine gate_callee (f := 7) rfl ?_); refine goesL_ (some 6) rfl rfl Try.func7 (by kernel_rfl) rfl #[.agg #[.int .i64 a0_0, .slice A0_1 l0_1.length c0_1]] rfl AQ ?_; (with_reducible refine (impl_TableOk.calls k a0_0 _ _ l0_1 true _ ?side1 ?side2 A2.out).mono ?_); (case side1 => exact SC HR0_1); (case side2 => exact HC0_1.out); rintro e w10 ⟨rfl, hb⟩; refine ⟨_, rfl, ?_⟩; have n_ : _ ∧ _ ∧ _ := ⟨AsM (blk_below (BD BK567) hb), AsM (blk_below (BD BK568) hb), AsM (below_step BG hb)⟩; clear BK567 BK568 HB; obtain ⟨BK567, BK568, HB⟩ := n_; (try clear hb); (try clear hb2); (try clear hk); (try clear hi); obtain ⟨hcz11_0, hcz11_1, hfz11_0, hfz11_1⟩ := bk2 BK567.out) | ((with_reducible refine gate_callee (f := 33) rfl ?_); refine goesL_ (some 10) rfl rfl Try.func33 (by kernel_rfl) rfl #[.agg #[.int .i64 a0_0, .slice A0_1 l0_1.length c0_1]] rfl AQ ?_; (with_reducible refine (impl_copyTable.calls a0_0 _ _ l0_1 t570 t571 _ ?side1 ?side2 A4.out).mono ?_); (case side1 => exact SC HR0_1); (case side2 => exact HC0_1.out); rintro e w12 ⟨v572, rfl, ho0, hb⟩; refine ⟨_, rfl, ?_⟩; have n_ : _ ∧ _ ∧ _ ∧ _ := ⟨AsM (Kd.R_lower ho0 (below_size BG)), AsM (blk_below (BD BK567) hb), AsM (blk_below (BD BK568) hb), AsM (below_step BG hb)⟩; clear BK567 BK568 HB; obtain ⟨HO573, BK567, BK568, HB⟩ := n_; (try clear hb); (try clear hb2); (try clear hk); (try clear hi); (try clear ho0)) | ((with_reducible refine gate_dst (N := 4) rfl ?_); refine box_event ?hg (N := 4) ?hd (cs := #[.int .i64 0, .slice none 0 0]) (t := 25) ?hr ?_; (case hd => rfl); (case hg => rfl); (case hr => first | (go_simp; done) | (go_simp; rfl)); intro gb574 hg w13 hbox hb; have n_ : _ ∧ _ ∧ _ ∧ _ ∧ _ ∧ _ ∧ _ ∧ _ ∧ _ ∧ _ ∧ _ := ⟨AsM (Kd.R_below (RD HO573) hb), AsM (blk_below (BD BK567) hb), AsM (blk_below (BD BK568) hb), AsM (below_step BG hb), AsM (hbox), AsM ((GM : w.heap.size ≤ gb574)), AsM ((GM : w.heap.size ≤ gb574)), AsM ((impl_Grow.z0 : gb567 ≠ gb574)), AsM ((impl_Grow.z1 : gb574 ≠ gb567)), AsM ((by rw [hg]; exact Nat.ne_of_lt (blk_lt (BD BK568)) : gb568 ≠ gb574)), AsM ((by rw [hg]; exact Nat.ne_of_gt (blk_lt (BD BK568)) : gb574 ≠ gb568))⟩; clear HO573 BK567 BK568 HB; obtain ⟨HO573, BK567, BK568, HB, BK574, GW574, GE574, NB567_574, NB574_567, NB568_574, NB574_568⟩ := n_; clear hb hbox hg; have hnb14 := NB574_567.out; have hnc14 := NB567_574.out; have hnb15 := NB574_568.out; have hnc15 := NB568_574.out; obtain ⟨hcz16_0, hcz16_1, hfz16_0, hfz16_1⟩ := bk2 BK574.out; obtain ⟨Ao17, co17, eo17⟩ := Kd.R_slice HO573.out; subst eo17; obtain ⟨hcz18_0, hcz18_1, hfz18_0, hfz18_1⟩ := bk2 BK567.out; obtain ⟨hcz19_0, hcz19_1, hfz19_0, hfz19_1⟩ := bk2 BK568.out))
   refine bodyPost_ret (results_ct rfl _ _ gb568 25 #[.int .i64 t570, .slice Ao17 t571.length co17] (0, 0) _ rfl (by refine PX ?_; refine blk_put (cs := #[.int .i64 t570, .slice none 0 0]) ?_ 1 _ rfl; refine PX ?_; refine blk_put (cs := #[.int .i64 0, .slice none 0 0]) ?_ 0 _ rfl; refine PX ?_; refine blk_far ?_ NB568_574.out _; refine PX ?_; refine blk_far ?_ NB568_574.out _; exact BD BK568) Try.underlying25 rfl (by kernel_rfl)) rfl ?_
   exact ⟨_, ER, by refine PRx ?_; exact Kd.R_mono (FR (FR (Kd.R_far (p := ⟨gb574, 1, none⟩) (Kd.R_far (p := ⟨gb574, 0, none⟩) (Kd.R_types (Kd.R_types HO573.out BK574.out (by decide)) BK568.out (by decide)) (fun _ hk => hk.1.2) (.int .i64 t570)) (fun _ hk => hk.1.2) (.slice Ao17 t571.length co17)))) (fun _ hk => trivial), BG⟩
  ·rw [if_neg c5] at H
   have c5b0 : (a0_0 == 64) = false := beq_eq_false_iff_ne.mpr c5
   have c5b1 : (a0_0 != 64) = true := bne_iff_ne.mpr c5
   simp only [Option.some.injEq, Prod.mk.injEq] at H
   obtain ⟨rfl, rfl, rfl⟩ := H
   go_enter Try.func14, Try.ntmps14
   go_wp2_with (first | ((with_reducible refine gate_dst (N := 1) rfl ?_); refine box_event ?hg (N := 1) ?hd (cs := #[.int .i64 a0_0, .slice A0_1 l0_1.length c0_1]) (t := 25) ?hr ?_; (case hd => rfl); (case hg => rfl); (case hr => first | (go_simp; done) | (go_simp; rfl)); intro gb567 hg w20 hbox hb; have n_ : _ ∧ _ ∧ _ ∧ _ := ⟨AsM (below_step BL hb), AsM (hbox), AsM ((GL : w.heap.size ≤ gb567)), AsM ((GL : w.heap.size ≤ gb567))⟩; clear HB; obtain ⟨HB, BK567, GW567, GE567⟩ := n_; clear hb hbox hg) | ((with_reducible refine gate_dst (N := 2) rfl ?_); refine box_event ?hg (N := 2) ?hd (cs := #[.int .i64 0, .slice none 0 0]) (t := 25) ?hr ?_; (case hd => rfl); (case hg => rfl); (case hr => first | (go_simp; done) | (go_simp; rfl)); intro gb568 hg w21 hbox hb; have n_ : _ ∧ _ ∧ _ ∧ _ ∧ _ ∧ _ ∧ _ := ⟨AsM (blk_below (BD BK567) hb), AsM (below_step BG hb), AsM (hbox), AsM ((GM : w.heap.size ≤ gb568)), AsM ((GM : w.heap.size ≤ gb568)), AsM ((impl_Grow.z0 : gb567 ≠ gb568)), AsM ((impl_Grow.z1 : gb568 ≠ gb567))⟩; clear BK567 HB; obtain ⟨BK567, HB, BK568, GW568, GE568, NB567_568, NB568_567⟩ := n_; clear hb hbox hg; have hnb22 := NB567_568.out; have hnc22 := NB568_567.out; obtain ⟨hcz23_0, hcz23_1, hfz23_0, hfz23_1⟩ := bk2 BK567.out) | ((with_reducible refine gate_callee (f := 7) rfl ?_); refine goesL_ (some 6) rfl rfl Try.func7 (by kernel_rfl) rfl #[.agg #[.int .i64 a0_0, .slice A0_1 l0_1.length c0_1]] rfl AQ ?_; (with_reducible refine (impl_TableOk.calls k a0_0 _ _ l0_1 true _ ?side1 ?side2 A2.out).mono ?_); (case side1 => exact SC HR0_1); (case side2 => exact HC0_1.out); rintro e w24 ⟨rfl, hb⟩; refine ⟨_, rfl, ?_⟩; have n_ : _ ∧ _ ∧ _ := ⟨AsM (blk_below (BD BK567) hb), AsM (blk_below (BD BK568) hb), AsM (below_step BG hb)⟩; clear BK567 BK568 HB; obtain ⟨BK567, BK568, HB⟩ := n_; (try clear hb); (try clear hb2); (try clear hk); (try clear hi); obtain ⟨hcz25_0, hcz25_1, hfz25_0, hfz25_1⟩ := bk2 BK567.out) | ((with_reducible refine gate_callee (f := 33) rfl ?_); refine goesL_ (some 10) rfl rfl Try.func33 (by kernel_rfl) rfl #[.agg #[.int .i64 a0_0, .slice A0_1 l0_1.length c0_1]] rfl AQ ?_; (with_reducible refine (impl_copyTable.calls a0_0 _ _ l0_1 t570 t571 _ ?side1 ?side2 A4.out).mono ?_); (case side1 => exact SC HR0_1); (case side2 => exact HC0_1.out); rintro e w26 ⟨v572, rfl, ho0, hb⟩; refine ⟨_, rfl, ?_⟩; have n_ : _ ∧ _ ∧ _ ∧ _ := ⟨AsM (Kd.R_lower ho0 (below_size BG)), AsM (blk_below (BD BK567) hb), AsM (blk_below (BD BK568) hb), AsM (below_step BG hb)⟩; clear BK567 BK568 HB; obtain ⟨HO573, BK567, BK568, HB⟩ := n_; (try clear hb); (try clear hb2); (try clear hk); (try clear hi); (try clear ho0)) | ((with_reducible refine gate_dst (N := 4) rfl ?_); refine box_event ?hg (N := 4) ?hd (cs := #[.int .i64 0, .slice none 0 0]) (t := 25) ?hr ?_; (case hd => rfl); (case hg => rfl); (case hr => first | (go_simp; done) | (go_simp; rfl)); intro gb574 hg w27 hbox hb; have n_ : _ ∧ _ ∧ _ ∧ _ ∧ _ ∧ _ ∧ _ ∧ _ ∧ _ ∧ _ ∧ _ := ⟨AsM (Kd.R_below (RD HO573) hb), AsM (blk_below (BD BK567) hb), AsM (blk_below (BD BK568) hb), AsM (below_step BG hb), AsM (hbox), AsM ((GM : w.heap.size ≤ gb574)), AsM ((GM : w.heap.size ≤ gb574)), AsM ((impl_Grow.z0 : gb567 ≠ gb574)), AsM ((impl_Grow.z1 : gb574 ≠ gb567)), AsM ((by rw [hg]; exact Nat.ne_of_lt (blk_lt (BD BK568)) : gb568 ≠ gb574)), AsM ((by rw [hg]; exact Nat.ne_of_gt (blk_lt (BD BK568)) : gb574 ≠ gb568))⟩; clear HO573 BK567 BK568 HB; obtain ⟨HO573, BK567, BK568, HB, BK574, GW574, GE574, NB567_574, NB574_567, NB568_574, NB574_568⟩ := n_; clear hb hbox hg; have hnb28 := NB574_567.out; have hnc28 := NB567_574.out; have hnb29 := NB574_568.out; have hnc29 := NB568_574.out; obtain ⟨hcz30_0, hcz30_1, hfz30_0, hfz30_1⟩ := bk2 BK574.out; obtain ⟨Ao31, co31, eo31⟩ := Kd.R_slice HO573.out; subst eo31; obtain ⟨hcz32_0, hcz32_1, hfz32_0, hfz32_1⟩ := bk2 BK567.out; obtain ⟨hcz33_0, hcz33_1, hfz33_0, hfz33_1⟩ := bk2 BK568.out))
   refine bodyPost_ret (results_ct rfl _ _ gb568 25 #[.int .i64 (wrap64 (2 * a0_0)), .slice Ao31 t571.length co31] (0, 0) _ rfl (by refine PX ?_; refine blk_put (cs := #[.int .i64 (wrap64 (2 * a0_0)), .slice none 0 0]) ?_ 1 _ rfl; refine PX ?_; refine blk_put (cs := #[.int .i64 0, .slice none 0 0]) ?_ 0 _ rfl; refine PX ?_; refine blk_far ?_ NB568_574.out _; refine PX ?_; refine blk_far ?_ NB568_574.out _; refine PX ?_; refine blk_far ?_ NB568_574.out _; exact BD BK568) Try.underlying25 rfl (by kernel_rfl)) rfl ?_
   exact ⟨_, ER, by refine PRx ?_; exact Kd.R_mono (FR (FR (Kd.R_far (p := ⟨gb574, 0, none⟩) (Kd.R_far (p := ⟨gb574, 1, none⟩) (Kd.R_far (p := ⟨gb574, 0, none⟩) (Kd.R_types (Kd.R_types HO573.out BK574.out (by decide)) BK568.out (by decide)) (fun _ hk => hk.1.2) (.int .i64 t570)) (fun _ hk => hk.1.2) (.slice Ao31 t571.length co31)) (fun _ hk => hk.1.2) (.int .i64 (wrap64 (2 * a0_0)))))) (fun _ hk => trivial), BG⟩
 ·replace c3 := Bool.eq_false_iff.mpr c3
  subst c3
  replace H := IN H
  simp only [Option.some.injEq, Prod.mk.injEq] at H
  obtain ⟨rfl, rfl, rfl⟩ := H
  go_enter Try.func14, Try.ntmps14
  go_wp2_with (first | ((with_reducible refine gate_dst (N := 1) rfl ?_); refine box_event ?hg (N := 1) ?hd (cs := #[.int .i64 a0_0, .slice A0_1 l0_1.length c0_1]) (t := 25) ?hr ?_; (case hd => rfl); (case hg => rfl); (case hr => first | (go_simp; done) | (go_simp; rfl)); intro gb567 hg w34 hbox hb; have n_ : _ ∧ _ ∧ _ ∧ _ := ⟨AsM (below_step BL hb), AsM (hbox), AsM ((GL : w.heap.size ≤ gb567)), AsM ((GL : w.heap.size ≤ gb567))⟩; clear HB; obtain ⟨HB, BK567, GW567, GE567⟩ := n_; clear hb hbox hg) | ((with_reducible refine gate_dst (N := 2) rfl ?_); refine box_event ?hg (N := 2) ?hd (cs := #[.int .i64 0, .slice none 0 0]) (t := 25) ?hr ?_; (case hd => rfl); (case hg => rfl); (case hr => first | (go_simp; done) | (go_simp; rfl)); intro gb568 hg w35 hbox hb; have n_ : _ ∧ _ ∧ _ ∧ _ ∧ _ ∧ _ ∧ _ := ⟨AsM (blk_below (BD BK567) hb), AsM (below_step BG hb), AsM (hbox), AsM ((GM : w.heap.size ≤ gb568)), AsM ((GM : w.heap.size ≤ gb568)), AsM ((impl_Grow.z0 : gb567 ≠ gb568)), AsM ((impl_Grow.z1 : gb568 ≠ gb567))⟩; clear BK567 HB; obtain ⟨BK567, HB, BK568, GW568, GE568, NB567_568, NB568_567⟩ := n_; clear hb hbox hg; have hnb36 := NB567_568.out; have hnc36 := NB568_567.out; obtain ⟨hcz37_0, hcz37_1, hfz37_0, hfz37_1⟩ := bk2 BK567.out) | ((with_reducible refine gate_callee (f := 7) rfl ?_); refine goesL_ (some 6) rfl rfl Try.func7 (by kernel_rfl) rfl #[.agg #[.int .i64 a0_0, .slice A0_1 l0_1.length c0_1]] rfl AQ ?_; (with_reducible refine (impl_TableOk.calls k a0_0 _ _ l0_1 false _ ?side1 ?side2 A2.out).mono ?_); (case side1 => exact SC HR0_1); (case side2 => exact HC0_1.out); rintro e w38 ⟨rfl, hb⟩; refine ⟨_, rfl, ?_⟩; have n_ : _ ∧ _ ∧ _ := ⟨AsM (blk_below (BD BK567) hb), AsM (blk_below (BD BK568) hb), AsM (below_step BG hb)⟩; clear BK567 BK568 HB; obtain ⟨BK567, BK568, HB⟩ := n_; (try clear hb); (try clear hb2); (try clear hk); (try clear hi); obtain ⟨hcz39_0, hcz39_1, hfz39_0, hfz39_1⟩ := bk2 BK568.out))
  refine bodyPost_ret (results_ct rfl _ _ gb568 25 #[.int .i64 0, .slice none 0 0] (0, 0) _ rfl (by refine PX ?_; refine blk_put (cs := #[.int .i64 0, .slice none 0 0]) ?_ 1 _ rfl; refine PX ?_; refine blk_put (cs := #[.int .i64 0, .slice none 0 0]) ?_ 0 _ rfl; exact BD BK568) Try.underlying25 rfl (by kernel_rfl)) rfl ?_
  exact ⟨_, ER, by first | exact Kd.R_nil _ _ _ _ _ | exact Kd.N_nil _ _ _ _ _ | exact Kd.V_nil _ _ _ _ _ | exact Kd.Q_nil _ _ _ _ _ | exact Kd.S_nil _ _ _ _ _, BG⟩
def laws_sameTexts.l0 : Nat → List ByteArray → List ByteArray → Int → Int → Option (Bool)
 | 0, _, _, _, _ => none
 | k + 1, x0, x1, x12, x13 => if x13 < x12 then (if 0 ≤ x13 then (if x13 < (x0.length : Int) then (if x13 < (x1.length : Int) then (if (rdOf ByteArray.empty x0 x13).toList = (rdOf ByteArray.empty x1 x13).toList then (laws_sameTexts.l0 k x0 x1 x12 (wrap64 (x13 + 1))) else (some false)) else (none)) else (none)) else (none)) else (some true)
def laws_sameTexts.f (k : Nat) (l0 : List ByteArray) (l1 : List ByteArray) : Option (Bool) := if (l0.length : Int) = (l1.length : Int) then (laws_sameTexts.l0 k l0 l1 (l0.length : Int) 0) else (some false)
theorem laws_sameTexts.mono_l : ∀ k, (∀ y0 y1 y2 y3, LeO (laws_sameTexts.l0 k y0 y1 y2 y3) (laws_sameTexts.l0 (k + 1) y0 y1 y2 y3))
 | 0 => fun _ _ _ _ r h => by simp [laws_sameTexts.l0] at h
 | k + 1 => by
  have ih0 := laws_sameTexts.mono_l k
  ·intro y0 y1 y2 y3
   unfold laws_sameTexts.l0
   repeat' first | (with_reducible first | exact ih0 _ _ _ _ | exact LeO.refl _ | exact LeO.none _ | refine LeO.ite ?_ ?_ | refine LeO.bind ?_ (fun _ => ?_)) | exact ih0 _ _ _ _ | exact LeO.none _ | refine LeO.ite ?_ ?_ | refine LeO.bind ?_ (fun _ => ?_)
theorem laws_sameTexts.mono : ∀ a0 a1 k, LeO (laws_sameTexts.f k a0 a1) (laws_sameTexts.f (k + 1) a0 a1) := by
 intro a0 a1 k
 have ih0 := laws_sameTexts.mono_l k
 unfold laws_sameTexts.f
 repeat' first | (with_reducible first | exact ih0 _ _ _ _ | exact LeO.refl _ | exact LeO.none _ | refine LeO.ite ?_ ?_ | refine LeO.bind ?_ (fun _ => ?_)) | exact ih0 _ _ _ _ | exact LeO.none _ | refine LeO.ite ?_ ?_ | refine LeO.bind ?_ (fun _ => ?_)
set_option maxHeartbeats 8000000 in
set_option maxRecDepth 100000 in
theorem laws_sameTexts.calls (k : Nat) (A0 : Option Addr) (c0 : Nat) (l0 : List ByteArray) (A1 : Option Addr) (c1 : Nat) (l1 : List ByteArray) (r : Bool) (w : World) (hr0 : Kd.C Kd.string w A0 l0.length l0) (hc0 : l0.length ≤ c0) (hr1 : Kd.C Kd.string w A1 l1.length l1) (hc1 : l1.length ≤ c1) (h : laws_sameTexts.f k l0 l1 = some r) :
  Calls Try.prog 15 #[.slice A0 l0.length c0, .slice A1 l1.length c1] w fun e w' => e = .returned (.bool r) ∧ Drawn0 w w' := by
 have HR0 := Aside0.mk hr0
 have HC0 := Aside0.mk hc0
 clear hr0 hc0
 have HR1 := Aside0.mk hr1
 have HC1 := Aside0.mk hc1
 clear hr1 hc1
 have H : (if (l0.length : Int) = (l1.length : Int) then (laws_sameTexts.l0 k l0 l1 (l0.length : Int) 0) else (some false)) = some r := h
 clear h
 by_cases c3 : (l0.length : Int) = (l1.length : Int)
 ·rw [if_pos c3] at H
  have c3b0 : ((l0.length : Int) == (l1.length : Int)) = true := beq_iff_eq.mpr c3
  have c3b1 : ((l0.length : Int) != (l1.length : Int)) = false := bne_eq_false_iff_eq.mpr c3
  have c3b2 : (l0.length == l1.length) = true := by first | simpa using c3 | (simp at c3 ⊢; omega)
  clear c3
  have H' := Aside0.mk H
  clear H
  go_enter Try.func15, Try.ntmps15
  go_wp2
  repeat (go_quiet (fail); try go_wp2)
  go_loopg [13] k (fun kq v13 w' => ∃ (x13_1 : Int), v13 = .int .i64 x13_1 ∧ Aside0 (laws_sameTexts.l0 kq l0 l1 (l0.length : Int) x13_1 = some r) ∧ Aside0 (kq ≤ k) ∧ Drawn0 w w')
  case atStart => exact ⟨(0), RS, H', ⟨Nat.le_refl _⟩, DR⟩
  case round =>
   clear H'
   try clear c1
   try clear p2
   try clear c3
   try clear c3b0
   try clear c3b1
   try clear c3b2
   obtain ⟨x13_1, rfl, HA, HK1, ⟨m1, rfl⟩⟩ := hrel
   cases gk with
   | zero => exact absurd HA.out (by simp [laws_sameTexts.l0])
   | succ k1 =>
    have H := HA.out
    clear HA
    simp only [laws_sameTexts.l0] at H
    by_cases c4 : x13_1 < (l0.length : Int)
    ·rw [if_pos c4] at H
     have c4b0 : decide (x13_1 < (l0.length : Int)) = true := decide_eq_true c4
     clear c4
     by_cases c5 : 0 ≤ x13_1
     ·rw [if_pos c5] at H
      have c5b0 : decide (0 ≤ x13_1) = true := decide_eq_true c5
      clear c5
      by_cases c6 : x13_1 < (l0.length : Int)
      ·rw [if_pos c6] at H
       have c6b0 : decide (x13_1 < (l0.length : Int)) = true := decide_eq_true c6
       clear c6
       by_cases c7 : x13_1 < (l1.length : Int)
       ·rw [if_pos c7] at H
        have c7b0 : decide (x13_1 < (l1.length : Int)) = true := decide_eq_true c7
        clear c7
        by_cases c8 : (rdOf ByteArray.empty l0 x13_1).toList = (rdOf ByteArray.empty l1 x13_1).toList
        ·rw [if_pos c8] at H
         have c8b0 : ((rdOf ByteArray.empty l0 x13_1).toList == (rdOf ByteArray.empty l1 x13_1).toList) = true := beq_iff_eq.mpr c8
         have c8b1 : ((rdOf ByteArray.empty l0 x13_1).toList != (rdOf ByteArray.empty l1 x13_1).toList) = false := bne_eq_false_iff_eq.mpr c8
         clear c8
         have H' := Aside0.mk H
         clear H
         have p575 : 0 ≤ (x13_1 : Int) := of_decide_eq_true AS
         have q575 : x13_1 < (l0.length : Int) := of_decide_eq_true AS
         obtain ⟨ad575, e575, hx575_0⟩ := Kd.at_string HR0.out x13_1 p575 q575
         cases e575
         replace p575 := eq_true p575
         replace q575 := eq_true q575
         have p576 : 0 ≤ (x13_1 : Int) := of_decide_eq_true AS
         have q576 : x13_1 < (l1.length : Int) := of_decide_eq_true AS
         obtain ⟨ad576, e576, hx576_0⟩ := Kd.at_string HR1.out x13_1 p576 q576
         cases e576
         replace p576 := eq_true p576
         replace q576 := eq_true q576
         go_wp2
         repeat (go_quiet (fail); try go_wp2)
         go_roundg k1
         case measure => have := HK1.out; omega
         case rel => exact ⟨(wrap64 (x13_1 + 1)), RS, H', ⟨by have := HK1.out; omega⟩, DR⟩
        ·rw [if_neg c8] at H
         have c8b0 : ((rdOf ByteArray.empty l0 x13_1).toList == (rdOf ByteArray.empty l1 x13_1).toList) = false := beq_eq_false_iff_ne.mpr c8
         have c8b1 : ((rdOf ByteArray.empty l0 x13_1).toList != (rdOf ByteArray.empty l1 x13_1).toList) = true := bne_iff_ne.mpr c8
         obtain rfl := Option.some.inj H
         have p575 : 0 ≤ (x13_1 : Int) := of_decide_eq_true AS
         have q575 : x13_1 < (l0.length : Int) := of_decide_eq_true AS
         obtain ⟨ad575, e575, hx575_0⟩ := Kd.at_string HR0.out x13_1 p575 q575
         cases e575
         replace p575 := eq_true p575
         replace q575 := eq_true q575
         have p576 : 0 ≤ (x13_1 : Int) := of_decide_eq_true AS
         have q576 : x13_1 < (l1.length : Int) := of_decide_eq_true AS
         obtain ⟨ad576, e576, hx576_0⟩ := Kd.at_string HR1.out x13_1 p576 q576
         cases e576
         replace p576 := eq_true p576
         replace q576 := eq_true q576
         go_wp2
         repeat (go_quiet (fail); try go_wp2)
         go_ret
         exact ⟨by first | rfl | (simp; done) | (simp [*]; done), DR⟩
       ·rw [if_neg c7] at H
        exact absurd H (by simp)
      ·rw [if_neg c6] at H
       exact absurd H (by simp)
     ·rw [if_neg c5] at H
      exact absurd H (by simp)
    ·rw [if_neg c4] at H
     have c4b0 : decide (x13_1 < (l0.length : Int)) = false := decide_eq_false c4
     clear c4
     obtain rfl := Option.some.inj H
     go_wp2
     repeat (go_quiet (fail); try go_wp2)
     go_ret
     exact ⟨by first | rfl | (simp; done) | (simp [*]; done), DR⟩
 ·rw [if_neg c3] at H
  have c3b0 : ((l0.length : Int) == (l1.length : Int)) = false := beq_eq_false_iff_ne.mpr c3
  have c3b1 : ((l0.length : Int) != (l1.length : Int)) = true := bne_iff_ne.mpr c3
  have c3b2 : (l0.length == l1.length) = false := by first | simpa using c3 | (simp at c3 ⊢; omega)
  obtain rfl := Option.some.inj H
  go_enter Try.func15, Try.ntmps15
  go_wp2
  repeat (go_quiet (fail); try go_wp2)
  go_ret
  exact ⟨by first | rfl | (simp; done) | (simp [*]; done), DR⟩
mutual
def laws_FnTable.l0 : Nat → List ByteArray → List ByteArray → Int → Int → Int → List (S49) → Option (Bool)
 | 0, _, _, _, _, _, _ => none
 | k + 1, x4, x27, x28, x29, x582000, x582001 => if x29 < x28 then (if 0 ≤ x29 then (if x29 < (x27.length : Int) then ((laws_hasText.f k x4 (rdOf ByteArray.empty x27 x29)).bind fun t590 => ((impl_Has.f k x582000 x582001 (rdOf ByteArray.empty x27 x29)).bind fun t591 => (if (t591 != t590) = true then (none) else (if (Int.tmod x29 3) = 2 then ((impl_Del.f k x582000 x582001 (rdOf ByteArray.empty x27 x29)).bind fun bt592 => (if (bt592.2.2 != t590) = true then (none) else ((laws_but.f k x4 (rdOf ByteArray.empty x27 x29)).bind fun t598 => (laws_FnTable.j1 k t598 x29 x27 x28 x29 bt592.1 bt592.2.1)))) else ((impl_Add.f k x582000 x582001 (rdOf ByteArray.empty x27 x29)).bind fun bt601 => (if (bt601.2.2 == t590) = true then (none) else ((laws_but.f k x4 (rdOf ByteArray.empty x27 x29)).bind fun t607 => (if t607.length < 8796093022208 then (laws_FnTable.j1 k (t607 ++ [rdOf ByteArray.empty x27 x29]) x29 x27 x28 x29 bt601.1 bt601.2.1) else (none))))))))) else (none)) else (none)) else (laws_FnTable.l1 k x4 (x4.length : Int) 0 x582000 x582001)
def laws_FnTable.j1 : Nat → List ByteArray → Int → List ByteArray → Int → Int → Int → List (S49) → Option (Bool)
 | 0, _, _, _, _, _, _, _ => none
 | k + 1, x4, x5, x27, x28, x29, x582000, x582001 => (impl_Grow.f k x582000 x582001).bind fun bt613 => ((impl_TableOk.f k x582000 x582001).bind fun t619 => (if t619 = true then ((impl_Keys.f k bt613.1 bt613.2.1).bind fun t620 => ((impl_Keys.f k x582000 x582001).bind fun t623 => ((laws_sameTexts.f k t620 t623).bind fun t626 => (if t626 = true then ((impl_Keys.f k x582000 x582001).bind fun t627 => (laws_FnTable.j2 k x4 x5 x27 x28 x29 ((t627.length : Int) != (x4.length : Int)) x582000 x582001 bt613.1 bt613.2.1)) else (laws_FnTable.j2 k x4 x5 x27 x28 x29 true x582000 x582001 bt613.1 bt613.2.1))))) else (laws_FnTable.j2 k x4 x5 x27 x28 x29 true x582000 x582001 bt613.1 bt613.2.1)))
def laws_FnTable.j2 : Nat → List ByteArray → Int → List ByteArray → Int → Int → Bool → Int → List (S49) → Int → List (S49) → Option (Bool)
 | 0, _, _, _, _, _, _, _, _, _, _ => none
 | k + 1, x4, x5, x27, x28, x29, x97, x582000, x582001, x619000, x619001 => if x97 = true then (none) else (if (Int.tmod x5 4) = 3 then (laws_FnTable.l0 k x4 x27 x28 (wrap64 (x29 + 1)) x619000 x619001) else (laws_FnTable.l0 k x4 x27 x28 (wrap64 (x29 + 1)) x582000 x582001))
def laws_FnTable.l1 : Nat → List ByteArray → Int → Int → Int → List (S49) → Option (Bool)
 | 0, _, _, _, _, _ => none
 | k + 1, x103, x104, x105, x582000, x582001 => if x105 < x104 then (if 0 ≤ x105 then (if x105 < (x103.length : Int) then ((impl_Has.f k x582000 x582001 (rdOf ByteArray.empty x103 x105)).bind fun t631 => (if t631 = true then (laws_FnTable.l1 k x103 x104 (wrap64 (x105 + 1)) x582000 x582001) else (none))) else (none)) else (none)) else ((impl_Has.f k x582000 x582001 (⟨#[110, 101, 118, 101, 114]⟩ : ByteArray)).bind fun t632 => (if t632 = true then (none) else ((impl_TableOk.f k x582000 x582001).bind fun t633 => (some t633))))
end
def laws_FnTable.f (k : Nat) (l0 : List Int) : Option (Bool) := if (l0.length : Int) > 1048576 then (some true) else ((spec_MakeTable.f k l0).bind fun bt577 => ((impl_Keys.f k bt577.1 bt577.2).bind fun t582 => ((impl_TableOk.f k bt577.1 bt577.2).bind fun t585 => (if t585 = true then ((spec_MakeWords.f k l0 12).bind fun t586 => (laws_FnTable.l0 k t582 t586 (t586.length : Int) 0 bt577.1 bt577.2)) else (none)))))
theorem laws_FnTable.mono_l : ∀ k, (∀ y0 y1 y2 y3 y4 y5, LeO (laws_FnTable.l0 k y0 y1 y2 y3 y4 y5) (laws_FnTable.l0 (k + 1) y0 y1 y2 y3 y4 y5)) ∧ (∀ y0 y1 y2 y3 y4 y5 y6, LeO (laws_FnTable.j1 k y0 y1 y2 y3 y4 y5 y6) (laws_FnTable.j1 (k + 1) y0 y1 y2 y3 y4 y5 y6)) ∧ (∀ y0 y1 y2 y3 y4 y5 y6 y7 y8 y9, LeO (laws_FnTable.j2 k y0 y1 y2 y3 y4 y5 y6 y7 y8 y9) (laws_FnTable.j2 (k + 1) y0 y1 y2 y3 y4 y5 y6 y7 y8 y9)) ∧ (∀ y0 y1 y2 y3 y4, LeO (laws_FnTable.l1 k y0 y1 y2 y3 y4) (laws_FnTable.l1 (k + 1) y0 y1 y2 y3 y4))
 | 0 => ⟨fun _ _ _ _ _ _ r h => by simp [laws_FnTable.l0] at h, fun _ _ _ _ _ _ _ r h => by simp [laws_FnTable.j1] at h, fun _ _ _ _ _ _ _ _ _ _ r h => by simp [laws_FnTable.j2] at h, fun _ _ _ _ _ r h => by simp [laws_FnTable.l1] at h⟩
 | k + 1 => by
  obtain ⟨ih0, ih1, ih2, ih3⟩ := laws_FnTable.mono_l k
  refine ⟨?_, ?_, ?_, ?_⟩
  ·intro y0 y1 y2 y3 y4 y5
   unfold laws_FnTable.l0
   repeat' first | (with_reducible first | exact ih0 _ _ _ _ _ _ | exact ih1 _ _ _ _ _ _ _ | exact ih2 _ _ _ _ _ _ _ _ _ _ | exact ih3 _ _ _ _ _ | exact impl_Add.mono _ _ _ _ | exact impl_Del.mono _ _ _ _ | exact impl_Grow.mono _ _ _ | exact impl_Has.mono _ _ _ _ | exact impl_Keys.mono _ _ _ | exact impl_TableOk.mono _ _ _ | exact laws_but.mono _ _ _ | exact laws_hasText.mono _ _ _ | exact laws_sameTexts.mono _ _ _ | exact spec_MakeTable.mono _ _ | exact spec_MakeWords.mono _ _ _ | exact LeO.refl _ | exact LeO.none _ | refine LeO.ite ?_ ?_ | refine LeO.bind ?_ (fun _ => ?_)) | exact ih0 _ _ _ _ _ _ | exact ih1 _ _ _ _ _ _ _ | exact ih2 _ _ _ _ _ _ _ _ _ _ | exact ih3 _ _ _ _ _ | exact impl_Add.mono _ _ _ _ | exact impl_Del.mono _ _ _ _ | exact impl_Grow.mono _ _ _ | exact impl_Has.mono _ _ _ _ | exact impl_Keys.mono _ _ _ | exact impl_TableOk.mono _ _ _ | exact laws_but.mono _ _ _ | exact laws_hasText.mono _ _ _ | exact laws_sameTexts.mono _ _ _ | exact spec_MakeTable.mono _ _ | exact spec_MakeWords.mono _ _ _ | exact LeO.none _ | refine LeO.ite ?_ ?_ | refine LeO.bind ?_ (fun _ => ?_)
  ·intro y0 y1 y2 y3 y4 y5 y6
   unfold laws_FnTable.j1
   repeat' first | (with_reducible first | exact ih0 _ _ _ _ _ _ | exact ih1 _ _ _ _ _ _ _ | exact ih2 _ _ _ _ _ _ _ _ _ _ | exact ih3 _ _ _ _ _ | exact impl_Add.mono _ _ _ _ | exact impl_Del.mono _ _ _ _ | exact impl_Grow.mono _ _ _ | exact impl_Has.mono _ _ _ _ | exact impl_Keys.mono _ _ _ | exact impl_TableOk.mono _ _ _ | exact laws_but.mono _ _ _ | exact laws_hasText.mono _ _ _ | exact laws_sameTexts.mono _ _ _ | exact spec_MakeTable.mono _ _ | exact spec_MakeWords.mono _ _ _ | exact LeO.refl _ | exact LeO.none _ | refine LeO.ite ?_ ?_ | refine LeO.bind ?_ (fun _ => ?_)) | exact ih0 _ _ _ _ _ _ | exact ih1 _ _ _ _ _ _ _ | exact ih2 _ _ _ _ _ _ _ _ _ _ | exact ih3 _ _ _ _ _ | exact impl_Add.mono _ _ _ _ | exact impl_Del.mono _ _ _ _ | exact impl_Grow.mono _ _ _ | exact impl_Has.mono _ _ _ _ | exact impl_Keys.mono _ _ _ | exact impl_TableOk.mono _ _ _ | exact laws_but.mono _ _ _ | exact laws_hasText.mono _ _ _ | exact laws_sameTexts.mono _ _ _ | exact spec_MakeTable.mono _ _ | exact spec_MakeWords.mono _ _ _ | exact LeO.none _ | refine LeO.ite ?_ ?_ | refine LeO.bind ?_ (fun _ => ?_)
  ·intro y0 y1 y2 y3 y4 y5 y6 y7 y8 y9
   unfold laws_FnTable.j2
   repeat' first | (with_reducible first | exact ih0 _ _ _ _ _ _ | exact ih1 _ _ _ _ _ _ _ | exact ih2 _ _ _ _ _ _ _ _ _ _ | exact ih3 _ _ _ _ _ | exact impl_Add.mono _ _ _ _ | exact impl_Del.mono _ _ _ _ | exact impl_Grow.mono _ _ _ | exact impl_Has.mono _ _ _ _ | exact impl_Keys.mono _ _ _ | exact impl_TableOk.mono _ _ _ | exact laws_but.mono _ _ _ | exact laws_hasText.mono _ _ _ | exact laws_sameTexts.mono _ _ _ | exact spec_MakeTable.mono _ _ | exact spec_MakeWords.mono _ _ _ | exact LeO.refl _ | exact LeO.none _ | refine LeO.ite ?_ ?_ | refine LeO.bind ?_ (fun _ => ?_)) | exact ih0 _ _ _ _ _ _ | exact ih1 _ _ _ _ _ _ _ | exact ih2 _ _ _ _ _ _ _ _ _ _ | exact ih3 _ _ _ _ _ | exact impl_Add.mono _ _ _ _ | exact impl_Del.mono _ _ _ _ | exact impl_Grow.mono _ _ _ | exact impl_Has.mono _ _ _ _ | exact impl_Keys.mono _ _ _ | exact impl_TableOk.mono _ _ _ | exact laws_but.mono _ _ _ | exact laws_hasText.mono _ _ _ | exact laws_sameTexts.mono _ _ _ | exact spec_MakeTable.mono _ _ | exact spec_MakeWords.mono _ _ _ | exact LeO.none _ | refine LeO.ite ?_ ?_ | refine LeO.bind ?_ (fun _ => ?_)
  ·intro y0 y1 y2 y3 y4
   unfold laws_FnTable.l1
   repeat' first | (with_reducible first | exact ih0 _ _ _ _ _ _ | exact ih1 _ _ _ _ _ _ _ | exact ih2 _ _ _ _ _ _ _ _ _ _ | exact ih3 _ _ _ _ _ | exact impl_Add.mono _ _ _ _ | exact impl_Del.mono _ _ _ _ | exact impl_Grow.mono _ _ _ | exact impl_Has.mono _ _ _ _ | exact impl_Keys.mono _ _ _ | exact impl_TableOk.mono _ _ _ | exact laws_but.mono _ _ _ | exact laws_hasText.mono _ _ _ | exact laws_sameTexts.mono _ _ _ | exact spec_MakeTable.mono _ _ | exact spec_MakeWords.mono _ _ _ | exact LeO.refl _ | exact LeO.none _ | refine LeO.ite ?_ ?_ | refine LeO.bind ?_ (fun _ => ?_)) | exact ih0 _ _ _ _ _ _ | exact ih1 _ _ _ _ _ _ _ | exact ih2 _ _ _ _ _ _ _ _ _ _ | exact ih3 _ _ _ _ _ | exact impl_Add.mono _ _ _ _ | exact impl_Del.mono _ _ _ _ | exact impl_Grow.mono _ _ _ | exact impl_Has.mono _ _ _ _ | exact impl_Keys.mono _ _ _ | exact impl_TableOk.mono _ _ _ | exact laws_but.mono _ _ _ | exact laws_hasText.mono _ _ _ | exact laws_sameTexts.mono _ _ _ | exact spec_MakeTable.mono _ _ | exact spec_MakeWords.mono _ _ _ | exact LeO.none _ | refine LeO.ite ?_ ?_ | refine LeO.bind ?_ (fun _ => ?_)
theorem laws_FnTable.mono : ∀ a0 k, LeO (laws_FnTable.f k a0) (laws_FnTable.f (k + 1) a0) := by
 intro a0 k
 obtain ⟨ih0, ih1, ih2, ih3⟩ := laws_FnTable.mono_l k
 unfold laws_FnTable.f
 repeat' first | (with_reducible first | exact ih0 _ _ _ _ _ _ | exact ih1 _ _ _ _ _ _ _ | exact ih2 _ _ _ _ _ _ _ _ _ _ | exact ih3 _ _ _ _ _ | exact impl_Add.mono _ _ _ _ | exact impl_Del.mono _ _ _ _ | exact impl_Grow.mono _ _ _ | exact impl_Has.mono _ _ _ _ | exact impl_Keys.mono _ _ _ | exact impl_TableOk.mono _ _ _ | exact laws_but.mono _ _ _ | exact laws_hasText.mono _ _ _ | exact laws_sameTexts.mono _ _ _ | exact spec_MakeTable.mono _ _ | exact spec_MakeWords.mono _ _ _ | exact LeO.refl _ | exact LeO.none _ | refine LeO.ite ?_ ?_ | refine LeO.bind ?_ (fun _ => ?_)) | exact ih0 _ _ _ _ _ _ | exact ih1 _ _ _ _ _ _ _ | exact ih2 _ _ _ _ _ _ _ _ _ _ | exact ih3 _ _ _ _ _ | exact impl_Add.mono _ _ _ _ | exact impl_Del.mono _ _ _ _ | exact impl_Grow.mono _ _ _ | exact impl_Has.mono _ _ _ _ | exact impl_Keys.mono _ _ _ | exact impl_TableOk.mono _ _ _ | exact laws_but.mono _ _ _ | exact laws_hasText.mono _ _ _ | exact laws_sameTexts.mono _ _ _ | exact spec_MakeTable.mono _ _ | exact spec_MakeWords.mono _ _ _ | exact LeO.none _ | refine LeO.ite ?_ ?_ | refine LeO.bind ?_ (fun _ => ?_)
def laws_FnTable.T25 : Bool × List (List Nat × List Nat) := (true, [([], []), ([0], [0]), ([1], [1]), ([2, 1], [2]), ([3], [3]), ([4, 3, 3], [3, 4]), ([3], [3]), ([6, 5, 3], [3, 6]), ([5, 7, 7, 3], [3, 5, 7]), ([8, 3], [3, 8]), ([3, 9], [3, 9]), ([10, 8], [10]), ([11], [11]), ([12, 11, 11], [11, 12]), ([13, 11], [11, 13]), ([11], [11]), ([15, 11], [11, 15]), ([14, 16, 11], [11, 14, 16]), ([11, 17], [11, 17])])
def laws_FnTable.B25 : List Nat := [0, 1, 3, 7, 15, 31, 15, 127, 255, 511, 1023, 2047, 4095, 8191, 16383, 4095, 36863, 131071, 262143]
theorem laws_FnTable.tab25 : rtab .any (opsOf Try.f3 25) = laws_FnTable.T25 := by kernel_rfl
theorem laws_FnTable.bits25 : waitsOk laws_FnTable.T25.2 laws_FnTable.B25 = true := by kernel_rfl
theorem laws_FnTable.z0 {P : Prop} (h : P := by repeat (first | (with_reducible first | exact HB.out | apply below_alloc | apply pw_below_drewN | apply below_drew1 | refine below_set ?_ GE581.out | refine below_set ?_ GE618.out) | exact HB.out)) : P := h
theorem laws_FnTable.z1 {P : Prop} (h : P := by refine PRx ?_; exact (Kd.R_mono (FM (FR (FR (Kd.R_far (p := ⟨gb597, 1, none⟩) (Kd.R_far (p := ⟨gb597, 0, none⟩) (Kd.R_types (Kd.R_types HO_4.out BK597.out (by decide)) BK581.out (by decide)) (fun _ hk => hk.1.2) (.int .i64 t592)) (fun _ hk => hk.1.2) (.slice Ao37 t593.length co37))))) (fun _ h_ => h_.1))) : P := h
theorem laws_FnTable.z2 {P : Prop} (h : P := by refine PRx ?_; exact (Kd.R_mono (FM (FR (FR (Kd.R_far (p := ⟨gb606, 1, none⟩) (Kd.R_far (p := ⟨gb606, 0, none⟩) (Kd.R_types (Kd.R_types HO_4.out BK606.out (by decide)) BK581.out (by decide)) (fun _ hk => hk.1.2) (.int .i64 t601)) (fun _ hk => hk.1.2) (.slice Ao49 t602.length co49))))) (fun _ h_ => h_.1))) : P := h
theorem laws_FnTable.z3 {P : Prop} (h : P := by refine PX ?_; refine blk_put (cs := #[.int .i64 t613, .slice none 0 0]) ?_ 1 _ rfl; refine PX ?_; refine blk_put (cs := #[.int .i64 0, .slice none 0 0]) ?_ 0 _ rfl; exact BD BK618) : P := h
theorem laws_FnTable.z4 {P : Prop} (h : P := by repeat (first | (with_reducible first | exact HB.out | apply below_alloc | apply pw_below_drewN | apply below_drew1 | refine below_set ?_ GE581.out) | exact HB.out)) : P := h
theorem laws_FnTable.z5 {P : Prop} (h : P := by refine PX ?_; refine blk_far ?_ NB581_618.out _; refine PX ?_; refine blk_far ?_ NB581_618.out _; exact BD BK581) : P := h
theorem laws_FnTable.z6 {P : Prop} (h : P := by refine PRx ?_; exact Kd.R_mono (FR (FR (Kd.R_types HO_582001.out BK618.out (by decide)))) (fun _ hk => hk.1.2)) : P := h
theorem laws_FnTable.z7 {P : Prop} (h : P := by refine PRx ?_; exact Kd.R_mono (FR (FR (Kd.R_types HO616.out BK618.out (by decide)))) (fun _ hk => hk.1.2)) : P := h
theorem laws_FnTable.z8 {P : Prop} (h : P := by refine PRx ?_; exact Kd.R_mono (FR (FR (Kd.R_types HO_27.out BK618.out (by decide)))) (fun _ hk => hk.1)) : P := h
theorem laws_FnTable.z9 {P : Prop} (h : P := by refine PRx ?_; exact Kd.R_mono (FR (FR (Kd.R_types HO_4.out BK618.out (by decide)))) (fun _ hk => hk.1)) : P := h
theorem laws_FnTable.z10 {P : Prop} (h : P := by have := HK1.out; have := HJ22.out; first | omega | exact Nat.le_refl _) : P := h
set_option maxHeartbeats 8000000 in
set_option maxRecDepth 100000 in
theorem laws_FnTable.calls (k : Nat) (A0 : Option Addr) (c0 : Nat) (l0 : List Int) (r : Bool) (w : World) (hr0 : Kd.C (Kd.int .u8) w A0 l0.length l0) (hc0 : l0.length ≤ c0) (h : laws_FnTable.f k l0 = some r) :
  Calls Try.prog 3 #[.slice A0 l0.length c0] w fun e w' => e = .returned (.bool r) ∧ Below w.heap.size w w' := by
 have hu25 := Try.underlying25
 have HR0 := Aside0.mk hr0
 have HC0 := Aside0.mk hc0
 clear hr0 hc0
 have HB := Aside0.mk (Below.refl w.heap.size w)
 have H : (if (l0.length : Int) > 1048576 then (some true) else ((spec_MakeTable.f k l0).bind fun bt577 => ((impl_Keys.f k bt577.1 bt577.2).bind fun t582 => ((impl_TableOk.f k bt577.1 bt577.2).bind fun t585 => (if t585 = true then ((spec_MakeWords.f k l0 12).bind fun t586 => (laws_FnTable.l0 k t582 t586 (t586.length : Int) 0 bt577.1 bt577.2)) else (none)))))) = some r := h
 clear h
 by_cases c2 : (l0.length : Int) > 1048576
 ·rw [if_pos c2] at H
  have c2b0 : decide (1048576 < (l0.length : Int)) = true := decide_eq_true c2
  have c2b1 : decide (1048576 < l0.length) = true := decide_eq_true (by omega)
  clear c2
  obtain rfl := Option.some.inj H
  go_enter Try.func3, Try.ntmps3
  go_wp2
  go_ret
  exact ⟨ER, BL⟩
 ·rw [if_neg c2] at H
  have c2b0 : decide (1048576 < (l0.length : Int)) = false := decide_eq_false c2
  have c2b1 : decide (1048576 < l0.length) = false := decide_eq_false (by omega)
  clear c2
  replace H := BS H
  obtain ⟨⟨t577, t578⟩, A30, H⟩ := H
  have A3 := Aside0.mk A30
  clear A30
  replace H := BS H
  obtain ⟨t582, A40, H⟩ := H
  have A4 := Aside0.mk A40
  clear A40
  replace H := BS H
  obtain ⟨t585, A50, H⟩ := H
  have A5 := Aside0.mk A50
  clear A50
  by_cases c6 : t585 = true
  ·subst c6
   replace H := IP H
   replace H := BS H
   obtain ⟨t586, A70, H⟩ := H
   have A7 := Aside0.mk A70
   clear A70
   have H' := Aside0.mk H
   clear H
   go_enter Try.func3, Try.ntmps3
   go_wp2_with (first | ((with_reducible refine gate_callee (f := 5) rfl ?_); refine goesL_ (some 20) rfl rfl Try.func5 (by kernel_rfl) rfl #[.slice A0 l0.length c0] rfl AQ ?_; (with_reducible refine (spec_MakeTable.calls k _ _ l0 t577 t578 _ ?side1 ?side2 A3.out).mono ?_); (case side1 => repeat (first | exact HR0.out | (with_reducible refine Kd.C_alloc ?_ _) | (with_reducible refine Kd.C_drewN ?_ _) | (with_reducible refine Kd.C_drew ?_))); (case side2 => exact HC0.out); rintro e w8 ⟨v579, rfl, ho0, hb⟩; refine ⟨_, rfl, ?_⟩; have n_ : _ ∧ _ := ⟨AsM (Kd.R_lower ho0 (below_size BL)), AsM (below_step BL hb)⟩; clear HB; obtain ⟨HO580, HB⟩ := n_; (try clear hb); (try clear hb2); (try clear hk); (try clear hi); (try clear ho0)) | ((with_reducible refine gate_dst (N := 3) rfl ?_); (try (refine gate_guard (by rfl) ?_; dsimp only)); refine box_event ?hg (N := 3) ?hd (cs := #[.int .i64 0, .slice none 0 0]) (t := 25) ?hr ?_; (case hd => rfl); (case hg => rfl); (case hr => first | (go_simp; done) | (go_simp; rfl)); intro gb581 hg w9 hbox hb; have n_ : _ ∧ _ ∧ _ ∧ _ ∧ _ := ⟨AsM (Kd.R_below (RD HO580) hb), AsM (below_step BL hb), AsM (hbox), AsM ((GL : w.heap.size ≤ gb581)), AsM ((GL : w.heap.size ≤ gb581))⟩; clear HO580 HB; obtain ⟨HO580, HB, BK581, GW581, GE581⟩ := n_; clear hb hbox hg; obtain ⟨hcz10_0, hcz10_1, hfz10_0, hfz10_1⟩ := bk2 BK581.out; obtain ⟨Ao11, co11, eo11⟩ := Kd.R_slice HO580.out; subst eo11) | ((with_reducible refine gate_callee (f := 6) rfl ?_); refine goesL_ (some 22) rfl rfl Try.func6 (by kernel_rfl) rfl #[.agg #[.int .i64 t577, .slice Ao11 t578.length co11]] rfl AQ ?_; (with_reducible refine (impl_Keys.calls k t577 _ _ t578 t582 _ ?side1 ?side2 A4.out).mono ?_); (case side1 => refine (Kd.R_reads' (e := 49) (base := w.heap.size) (ok := fun k_ => True) (n := t578.length) (c := co11) ?_).2.2; exact (by refine PRx ?_; exact (FM (FR (FR (Kd.R_types HO580.out BK581.out (by decide))))))); (case side2 => exact (Kd.R_reads' HO580.out).2.1); rintro e w12 ⟨v583, rfl, ho0, hb⟩; refine ⟨_, rfl, ?_⟩; have n_ : _ ∧ _ ∧ _ ∧ _ := ⟨AsM (Kd.R_below (by refine PRx ?_; exact (FM (FR (FR (Kd.R_types HO580.out BK581.out (by decide)))))) hb), AsM (Kd.R_lower ho0 (below_size BG)), AsM (blk_below (g := gb581) (o := .cells #[.int .i64 t577, .slice Ao11 t578.length co11] 25 (0, 0)) (by refine PX ?_; refine blk_put (cs := #[.int .i64 t577, .slice none 0 0]) ?_ 1 _ rfl; refine PX ?_; refine blk_put (cs := #[.int .i64 0, .slice none 0 0]) ?_ 0 _ rfl; exact BD BK581) hb), AsM (below_step BG hb)⟩; clear HO580 BK581 HB; obtain ⟨HO580, HO584, BK581, HB⟩ := n_; (try clear hb); (try clear hb2); (try clear hk); (try clear hi); (try clear ho0); obtain ⟨hcz13_0, hcz13_1, hfz13_0, hfz13_1⟩ := bk2 BK581.out) | ((with_reducible refine gate_callee (f := 7) rfl ?_); refine goesL_ (some 24) rfl rfl Try.func7 (by kernel_rfl) rfl #[.agg #[.int .i64 t577, .slice Ao11 t578.length co11]] rfl AQ ?_; (with_reducible refine (impl_TableOk.calls k t577 _ _ t578 true _ ?side1 ?side2 A5.out).mono ?_); (case side1 => exact SR HO580); (case side2 => exact (Kd.R_reads' HO580.out).2.1); rintro e w14 ⟨rfl, hb⟩; refine ⟨_, rfl, ?_⟩; have n_ : _ ∧ _ ∧ _ ∧ _ := ⟨AsM (Kd.R_below (RD HO580) hb), AsM (Kd.R_below (RD HO584) hb), AsM (blk_below (BD BK581) hb), AsM (below_step BG hb)⟩; clear HO580 HO584 BK581 HB; obtain ⟨HO580, HO584, BK581, HB⟩ := n_; (try clear hb); (try clear hb2); (try clear hk); (try clear hi)) | ((with_reducible refine gate_callee (f := 8) rfl ?_); refine goesL_ (some 27) rfl rfl Try.func8 (by kernel_rfl) rfl #[.slice A0 l0.length c0, .int .i64 12] rfl AQ ?_; (with_reducible refine (spec_MakeWords.calls k _ _ l0 12 t586 _ ?side1 ?side2 A7.out).mono ?_); (case side1 => exact SC HR0); (case side2 => exact HC0.out); rintro e w15 ⟨v587, rfl, ho0, hb⟩; refine ⟨_, rfl, ?_⟩; have n_ : _ ∧ _ ∧ _ ∧ _ ∧ _ := ⟨AsM (Kd.R_below (RD HO580) hb), AsM (Kd.R_elder' (RD HO584) (Kd.R_base ho0) hb), AsM (Kd.R_lower (Kd.R_new' ho0 (Kd.R_lt (RD HO584))) (below_size BG)), AsM (blk_below (BD BK581) hb), AsM (below_step BG hb)⟩; clear HO580 HO584 BK581 HB; obtain ⟨HO580, HO584, HO588, BK581, HB⟩ := n_; (try clear hb); (try clear hb2); (try clear hk); (try clear hi); (try clear ho0); obtain ⟨Ao16, co16, eo16⟩ := Kd.R_slice HO588.out; subst eo16))
   go_loopg [4, 29] k (fun kq v4 v29 w' => ∃ (x4_1 : List ByteArray) (x29_1 : Int) (x582000_1 : Int) (x582001_1 : List (S49)) (u582001 : Value), v29 = .int .i64 x29_1 ∧ Aside0 (laws_FnTable.l0 kq x4_1 t586 (t586.length : Int) x29_1 x582000_1 x582001_1 = some r) ∧ Aside0 (kq ≤ k) ∧ Aside0 (Kd.R Kd.string 9 w' w.heap.size (fun k_ => some k_ ≠ ((.slice Ao16 t586.length co16) : Value).ownBlock) v4 x4_1) ∧ Aside0 (Kd.R Kd.string 9 w' w.heap.size (fun k_ => some k_ ≠ (v4 : Value).ownBlock) (.slice Ao16 t586.length co16) t586) ∧ Aside0 (Kd.R k49 49 w' w.heap.size (fun _ => True) u582001 x582001_1) ∧ Aside0 (w'.heap[gb581]? = some (.cells #[.int .i64 x582000_1, u582001] 25 (0, 0))) ∧ Aside0 (Below w.heap.size w w'))
   case atStart => exact ⟨(t582), (0), (t577), (t578), (.slice Ao11 t578.length co11), RS, H', ⟨Nat.le_refl _⟩, ⟨by refine PRx ?_; exact Kd.R_mono HO584.out (fun _ hk => hk.2)⟩, ⟨by refine PRx ?_; exact Kd.R_mono HO588.out (fun _ hk => hk.2)⟩, ⟨RD HO580⟩, ⟨BD BK581⟩, ⟨laws_FnTable.z4⟩⟩
   case round =>
    clear H'
    try clear c2
    try clear c2b0
    try clear c2b1
    try clear p2
    try clear c3
    try clear c5
    try clear c6
    try clear c7
    try clear c8
    try clear hcz10_0
    try clear hcz10_1
    try clear hcz13_0
    try clear hcz13_1
    try clear hfz10_0
    try clear hfz10_1
    try clear hfz13_0
    try clear hfz13_1
    obtain ⟨x4_1, x29_1, x582000_1, x582001_1, u582001, rfl, HA, HK1, HO_4, HO_27, HO_582001, BK581, HB⟩ := hrel
    cases gk with
    | zero => exact absurd HA.out (by simp [laws_FnTable.l0])
    | succ k1 =>
     have H := HA.out
     clear HA
     simp only [laws_FnTable.l0] at H
     by_cases c17 : x29_1 < (t586.length : Int)
     ·rw [if_pos c17] at H
      have c17b0 : decide (x29_1 < (t586.length : Int)) = true := decide_eq_true c17
      clear c17
      by_cases c18 : 0 ≤ x29_1
      ·rw [if_pos c18] at H
       have c18b0 : decide (0 ≤ x29_1) = true := decide_eq_true c18
       clear c18
       by_cases c19 : x29_1 < (t586.length : Int)
       ·rw [if_pos c19] at H
        have c19b0 : decide (x29_1 < (t586.length : Int)) = true := decide_eq_true c19
        clear c19
        replace H := BS H
        obtain ⟨t590, A200, H⟩ := H
        have A20 := Aside0.mk A200
        clear A200
        replace H := BS H
        obtain ⟨t591, A210, H⟩ := H
        have A21 := Aside0.mk A210
        clear A210
        by_cases c22 : (t591 != t590) = true
        ·rw [if_pos c22] at H
         exact absurd H (by simp)
        ·rw [if_neg c22] at H
         have c22b0 : (t591 != t590) = false := by simpa using c22
         (try (have c22b1 : decide (t591 = t590) = true := by simpa using c22))
         (try (have c22b2 : (t591 == t590) = true := by simpa using c22))
         clear c22
         have HC23 := Aside0.mk H
         clear H
         have p589 : 0 ≤ (x29_1 : Int) := of_decide_eq_true AS
         have q589 : x29_1 < (t586.length : Int) := of_decide_eq_true AS
         obtain ⟨ad589, e589, hx589_0⟩ := Kd.at_string (Kd.R_reads' HO_27.out).2.2 x29_1 p589 q589
         cases e589
         replace p589 := eq_true p589
         replace q589 := eq_true q589
         obtain ⟨Ao24, co24, eo24⟩ := Kd.R_slice HO_4.out
         subst eo24
         go_upto_if 44 with (first | ((with_reducible refine gate_callee (f := 9) rfl ?_); refine goesL_ (some 36) rfl rfl Try.func9 (by kernel_rfl) rfl #[.slice Ao24 x4_1.length co24, .string (rdOf ByteArray.empty t586 x29_1)] rfl AQ ?_; (with_reducible refine (laws_hasText.calls k1 _ _ x4_1 (rdOf ByteArray.empty t586 x29_1) t590 _ ?side1 ?side2 A20.out).mono ?_); (case side1 => exact SR HO_4); (case side2 => exact (Kd.R_reads' HO_4.out).2.1); rintro e w' ⟨rfl, ⟨nd, rfl⟩⟩; refine ⟨_, rfl, ?_⟩; obtain ⟨hcz25_0, hcz25_1, hfz25_0, hfz25_1⟩ := bk2 BK581.out; obtain ⟨Ao26, co26, eo26⟩ := Kd.R_slice HO_582001.out; subst eo26) | ((with_reducible refine gate_callee (f := 10) rfl ?_); refine goesL_ (some 39) rfl rfl Try.func10 (by kernel_rfl) rfl #[.agg #[.int .i64 x582000_1, .slice Ao26 x582001_1.length co26], .string (rdOf ByteArray.empty t586 x29_1)] rfl AQ ?_; (with_reducible refine (impl_Has.calls k1 x582000_1 _ _ x582001_1 (rdOf ByteArray.empty t586 x29_1) t591 _ ?side1 ?side2 A21.out).mono ?_); (case side1 => exact SR HO_582001); (case side2 => exact (Kd.R_reads' HO_582001.out).2.1); rintro e w27 ⟨rfl, hb⟩; refine ⟨_, rfl, ?_⟩; have n_ : _ ∧ _ ∧ _ ∧ _ ∧ _ := ⟨AsM (Kd.R_below (RD HO_4) hb), AsM (Kd.R_below (RD HO_27) hb), AsM (Kd.R_below (RD HO_582001) hb), AsM (blk_below (BD BK581) hb), AsM (below_step BG hb)⟩; clear HO_4 HO_27 HO_582001 BK581 HB; obtain ⟨HO_4, HO_27, HO_582001, BK581, HB⟩ := n_; (try clear hb); (try clear hb2); (try clear hk); (try clear hi)))
         (try simp only [Act.put, List.setIfInBounds_toArray, List.set_cons_zero, List.set_cons_succ])
         go_cut [4] (fun v4 wc => ∃ (kq : Nat) (x4_22 : List ByteArray) (x582000_22 : Int) (x582001_22 : List (S49)) (u582001 : Value), Aside0 (laws_FnTable.j1 kq x4_22 x29_1 t586 (t586.length : Int) x29_1 x582000_22 x582001_22 = some r) ∧ Aside0 (kq ≤ k1) ∧ Aside0 (Kd.R Kd.string 9 wc w.heap.size (fun k_ => some k_ ≠ ((.slice (some ad589) t586.length co16) : Value).ownBlock) v4 x4_22) ∧ Aside0 (Kd.R Kd.string 9 wc w.heap.size (fun k_ => some k_ ≠ (v4 : Value).ownBlock) (.slice (some ad589) t586.length co16) t586) ∧ Aside0 (Kd.R k49 49 wc w.heap.size (fun _ => True) u582001 x582001_22) ∧ Aside0 (wc.heap[gb581]? = some (.cells #[.int .i64 x582000_22, u582001] 25 (0, 0))) ∧ Aside0 (Below w.heap.size w wc))
         case first =>
          have H := HC23.out
          clear HC23
          by_cases c28 : (Int.tmod x29_1 3) = 2
          ·rw [if_pos c28] at H
           have c28b0 : ((Int.tmod x29_1 3) == 2) = true := beq_iff_eq.mpr c28
           have c28b1 : ((Int.tmod x29_1 3) != 2) = false := bne_eq_false_iff_eq.mpr c28
           clear c28
           (first | rw [c28b0] | (simp only [i64_w, i32_w]; rw [c28b0]) | skip)
           replace H := BS H
           obtain ⟨⟨t592, t593, t596⟩, A290, H⟩ := H
           have A29 := Aside0.mk A290
           clear A290
           by_cases c30 : (t596 != t590) = true
           ·rw [if_pos c30] at H
            exact absurd H (by simp)
           ·rw [if_neg c30] at H
            have c30b0 : (t596 != t590) = false := by simpa using c30
            (try (have c30b1 : decide (t596 = t590) = true := by simpa using c30))
            (try (have c30b2 : (t596 == t590) = true := by simpa using c30))
            clear c30
            replace H := BS H
            obtain ⟨t598, A310, H⟩ := H
            have A31 := Aside0.mk A310
            clear A310
            have H' := Aside0.mk H
            clear H
            obtain ⟨hcz32_0, hcz32_1, hfz32_0, hfz32_1⟩ := bk2 BK581.out
            go_wp2_with (first | ((with_reducible refine gate_callee (f := 11) rfl ?_); refine goesL_ (some 48) rfl rfl Try.func11 (by kernel_rfl) rfl #[.agg #[.int .i64 x582000_1, .slice Ao26 x582001_1.length co26], .string (rdOf ByteArray.empty t586 x29_1)] rfl AQ ?_; (with_reducible refine (impl_Del.calls k1 x582000_1 _ _ x582001_1 (rdOf ByteArray.empty t586 x29_1) t592 t593 t596 _ ?side1 ?side2 A29.out).mono ?_); (case side1 => exact SR HO_582001); (case side2 => exact (Kd.R_reads' HO_582001.out).2.1); rintro e w33 ⟨v594, rfl, ho0, hb⟩; refine ⟨_, rfl, ?_⟩; have n_ : _ ∧ _ ∧ _ ∧ _ ∧ _ ∧ _ := ⟨AsM (Kd.R_below (RD HO_4) hb), AsM (Kd.R_below (RD HO_27) hb), AsM (Kd.R_elder' (RD HO_582001) (Kd.R_base ho0) hb), AsM (Kd.R_lower (Kd.R_new' ho0 (Kd.R_lt (RD HO_582001))) (below_size BG)), AsM (blk_below (BD BK581) hb), AsM (below_step BG hb)⟩; clear HO_4 HO_27 HO_582001 BK581 HB; obtain ⟨HO_4, HO_27, HO_582001, HO595, BK581, HB⟩ := n_; (try clear hb); (try clear hb2); (try clear hk); (try clear hi); (try clear ho0)) | ((with_reducible refine gate_dst (N := 8) rfl ?_); (try (refine gate_guard (by rfl) ?_; dsimp only)); refine box_event ?hg (N := 8) ?hd (cs := #[.int .i64 0, .slice none 0 0]) (t := 25) ?hr ?_; (case hd => rfl); (case hg => rfl); (case hr => first | (go_simp; done) | (go_simp; rfl)); intro gb597 hg w34 hbox hb; have n_ : _ ∧ _ ∧ _ ∧ _ ∧ _ ∧ _ ∧ _ ∧ _ ∧ _ ∧ _ ∧ _ := ⟨AsM (Kd.R_below (RD HO_4) hb), AsM (Kd.R_below (RD HO_27) hb), AsM (Kd.R_below (RD HO_582001) hb), AsM (Kd.R_below (RD HO595) hb), AsM (blk_below (BD BK581) hb), AsM (below_step BG hb), AsM (hbox), AsM ((GM : w.heap.size ≤ gb597)), AsM ((GM : w.heap.size ≤ gb597)), AsM ((by rw [hg]; exact Nat.ne_of_lt (blk_lt (BD BK581)) : gb581 ≠ gb597)), AsM ((by rw [hg]; exact Nat.ne_of_gt (blk_lt (BD BK581)) : gb597 ≠ gb581))⟩; clear HO_4 HO_27 HO_582001 HO595 BK581 HB; obtain ⟨HO_4, HO_27, HO_582001, HO595, BK581, HB, BK597, GW597, GE597, NB581_597, NB597_581⟩ := n_; clear hb hbox hg; have hnb35 := NB597_581.out; have hnc35 := NB581_597.out; obtain ⟨hcz36_0, hcz36_1, hfz36_0, hfz36_1⟩ := bk2 BK597.out; obtain ⟨Ao37, co37, eo37⟩ := Kd.R_slice HO595.out; subst eo37; obtain ⟨hcz38_0, hcz38_1, hfz38_0, hfz38_1⟩ := bk2 BK581.out) | ((with_reducible refine gate_callee (f := 12) rfl ?_); refine goesL_ (some 57) rfl rfl Try.func12 (by kernel_rfl) rfl #[.slice Ao24 x4_1.length co24, .string (rdOf ByteArray.empty t586 x29_1)] rfl AQ ?_; (with_reducible refine (laws_but.calls k1 _ _ x4_1 (rdOf ByteArray.empty t586 x29_1) t598 _ ?side1 ?side2 A31.out).mono ?_); (case side1 => refine (Kd.R_reads' (e := 9) (base := w.heap.size) (ok := fun k_ => some k_ ≠ (.slice (some ad589) t586.length co16 : Value).ownBlock) (n := x4_1.length) (c := co24) ?_).2.2; exact (laws_FnTable.z1)); (case side2 => exact (Kd.R_reads' HO_4.out).2.1); rintro e w39 ⟨v599, rfl, ho0, hb⟩; refine ⟨_, rfl, ?_⟩; have n_ : _ ∧ _ ∧ _ ∧ _ ∧ _ ∧ _ ∧ _ ∧ _ := ⟨AsM (Kd.R_elder' (laws_FnTable.z1) (Kd.R_base ho0) hb), AsM (Kd.R_elder' (by refine PRx ?_; exact (Kd.R_mono (FM (FR (FR (Kd.R_far (p := ⟨gb597, 1, none⟩) (Kd.R_far (p := ⟨gb597, 0, none⟩) (Kd.R_types (Kd.R_types HO_27.out BK597.out (by decide)) BK581.out (by decide)) (fun _ hk => hk.1.2) (.int .i64 t592)) (fun _ hk => hk.1.2) (.slice Ao37 t593.length co37))))) (fun _ h_ => h_.1))) (Kd.R_base ho0) hb), AsM (Kd.R_below (by refine PRx ?_; exact (Kd.R_mono (FM (FR (FR (Kd.R_far (p := ⟨gb597, 1, none⟩) (Kd.R_far (p := ⟨gb597, 0, none⟩) (Kd.R_types (Kd.R_types HO_582001.out BK597.out (by decide)) BK581.out (by decide)) (fun _ hk => hk.1.2) (.int .i64 t592)) (fun _ hk => hk.1.2) (.slice Ao37 t593.length co37))))) (fun _ h_ => h_.1))) hb), AsM (Kd.R_below (by refine PRx ?_; exact (Kd.R_mono (FM (FR (FR (Kd.R_far (p := ⟨gb597, 1, none⟩) (Kd.R_far (p := ⟨gb597, 0, none⟩) (Kd.R_types (Kd.R_types HO595.out BK597.out (by decide)) BK581.out (by decide)) (fun _ hk => hk.1.2) (.int .i64 t592)) (fun _ hk => hk.1.2) (.slice Ao37 t593.length co37))))) (fun _ h_ => h_.1))) hb), AsM (Kd.R_lower (Kd.R_new' (Kd.R_new' ho0 (Kd.R_lt (laws_FnTable.z1))) (Kd.R_lt (by refine PRx ?_; exact (Kd.R_mono (FM (FR (FR (Kd.R_far (p := ⟨gb597, 1, none⟩) (Kd.R_far (p := ⟨gb597, 0, none⟩) (Kd.R_types (Kd.R_types HO_27.out BK597.out (by decide)) BK581.out (by decide)) (fun _ hk => hk.1.2) (.int .i64 t592)) (fun _ hk => hk.1.2) (.slice Ao37 t593.length co37))))) (fun _ h_ => h_.1))))) (below_size BG)), AsM (blk_below (g := gb581) (o := .cells #[.int .i64 t592, .slice Ao37 t593.length co37] 25 (0, 0)) (by refine PX ?_; refine blk_put (cs := #[.int .i64 t592, .slice Ao26 x582001_1.length co26]) ?_ 1 _ rfl; refine PX ?_; refine blk_put (cs := #[.int .i64 x582000_1, .slice Ao26 x582001_1.length co26]) ?_ 0 _ rfl; refine PX ?_; refine blk_far ?_ NB581_597.out _; refine PX ?_; refine blk_far ?_ NB581_597.out _; exact BD BK581) hb), AsM (blk_below (g := gb597) (o := .cells #[.int .i64 t592, .slice Ao37 t593.length co37] 25 (0, 0)) (by refine PX ?_; refine blk_far ?_ NB597_581.out _; refine PX ?_; refine blk_far ?_ NB597_581.out _; refine PX ?_; refine blk_put (cs := #[.int .i64 t592, .slice none 0 0]) ?_ 1 _ rfl; refine PX ?_; refine blk_put (cs := #[.int .i64 0, .slice none 0 0]) ?_ 0 _ rfl; exact BD BK597) hb), AsM (below_step BG hb)⟩; clear HO_4 HO_27 HO_582001 HO595 BK581 BK597 HB; obtain ⟨HO_4, HO_27, HO_582001, HO595, HO600, BK581, BK597, HB⟩ := n_; (try clear hb); (try clear hb2); (try clear hk); (try clear hi); (try clear ho0)))
            go_meet
            case rel => exact ⟨_, (t598), (t592), (t593), (.slice Ao37 t593.length co37), H', ⟨by have := HK1.out; first | omega | exact Nat.le_refl _⟩, ⟨by refine PRx ?_; exact Kd.R_mono HO600.out (fun _ hk => hk.2)⟩, ⟨by refine PRx ?_; exact Kd.R_mono HO_27.out (fun _ hk => hk.2)⟩, ⟨by refine PRx ?_; exact Kd.R_mono HO595.out (fun _ hk => trivial)⟩, ⟨BD BK581⟩, ⟨by repeat (first | (with_reducible first | exact HB.out | apply below_alloc | apply pw_below_drewN | apply below_drew1 | refine below_set ?_ GE581.out | refine below_set ?_ GE597.out) | exact HB.out)⟩⟩
          ·rw [if_neg c28] at H
           have c28b0 : ((Int.tmod x29_1 3) == 2) = false := beq_eq_false_iff_ne.mpr c28
           have c28b1 : ((Int.tmod x29_1 3) != 2) = true := bne_iff_ne.mpr c28
           (first | rw [c28b0] | (simp only [i64_w, i32_w]; rw [c28b0]) | skip)
           replace H := BS H
           obtain ⟨⟨t601, t602, t605⟩, A400, H⟩ := H
           have A40 := Aside0.mk A400
           clear A400
           by_cases c41 : (t605 == t590) = true
           ·rw [if_pos c41] at H
            exact absurd H (by simp)
           ·rw [if_neg c41] at H
            have c41b0 : (t605 == t590) = false := by simpa using c41
            (try (have c41b1 : decide (t605 = t590) = false := by simpa using c41))
            (try (have c41b2 : (t605 == t590) = false := by simpa using c41))
            (try (have c41b3 : ¬ (t605 = t590) := by simpa using c41))
            clear c41
            replace H := BS H
            obtain ⟨t607, A420, H⟩ := H
            have A42 := Aside0.mk A420
            clear A420
            by_cases c43 : t607.length < 8796093022208
            ·rw [if_pos c43] at H
             have LMc43 := Aside0.mk c43
             clear c43
             obtain ⟨y610, hy610⟩ : ∃ y_ : List ByteArray, y_ = (t607 ++ [rdOf ByteArray.empty t586 x29_1]) := ⟨_, rfl⟩
             replace H : (laws_FnTable.j1 k1 y610 x29_1 t586 (t586.length : Int) x29_1 t601 t602) = some r := by first | (rw [hy610]; with_reducible exact H) | (have H2_ := (Option.bind_some _ _).symm.trans H; rw [hy610]; with_reducible exact H2_) | (have H2_ := (Option.bind_some _ _).symm.trans H; with_reducible exact H2_) | with_reducible exact H | (rw [hy610]; exact H) | exact H
             have Ny610 := Aside0.mk hy610
             clear hy610
             have H' := Aside0.mk H
             clear H
             obtain ⟨hcz44_0, hcz44_1, hfz44_0, hfz44_1⟩ := bk2 BK581.out
             go_wp2_with (first | ((with_reducible refine gate_callee (f := 13) rfl ?_); refine goesL_ (some 61) rfl rfl Try.func13 (by kernel_rfl) rfl #[.agg #[.int .i64 x582000_1, .slice Ao26 x582001_1.length co26], .string (rdOf ByteArray.empty t586 x29_1)] rfl AQ ?_; (with_reducible refine (impl_Add.calls k1 x582000_1 _ _ x582001_1 (rdOf ByteArray.empty t586 x29_1) t601 t602 t605 _ ?side1 ?side2 A40.out).mono ?_); (case side1 => exact SR HO_582001); (case side2 => exact (Kd.R_reads' HO_582001.out).2.1); rintro e w45 ⟨v603, rfl, ho0, hb⟩; refine ⟨_, rfl, ?_⟩; have n_ : _ ∧ _ ∧ _ ∧ _ ∧ _ ∧ _ := ⟨AsM (Kd.R_below (RD HO_4) hb), AsM (Kd.R_below (RD HO_27) hb), AsM (Kd.R_elder' (RD HO_582001) (Kd.R_base ho0) hb), AsM (Kd.R_lower (Kd.R_new' ho0 (Kd.R_lt (RD HO_582001))) (below_size BG)), AsM (blk_below (BD BK581) hb), AsM (below_step BG hb)⟩; clear HO_4 HO_27 HO_582001 BK581 HB; obtain ⟨HO_4, HO_27, HO_582001, HO604, BK581, HB⟩ := n_; (try clear hb); (try clear hb2); (try clear hk); (try clear hi); (try clear ho0)) | ((with_reducible refine gate_dst (N := 10) rfl ?_); (try (refine gate_guard (by rfl) ?_; dsimp only)); refine box_event ?hg (N := 10) ?hd (cs := #[.int .i64 0, .slice none 0 0]) (t := 25) ?hr ?_; (case hd => rfl); (case hg => rfl); (case hr => first | (go_simp; done) | (go_simp; rfl)); intro gb606 hg w46 hbox hb; have n_ : _ ∧ _ ∧ _ ∧ _ ∧ _ ∧ _ ∧ _ ∧ _ ∧ _ ∧ _ ∧ _ := ⟨AsM (Kd.R_below (RD HO_4) hb), AsM (Kd.R_below (RD HO_27) hb), AsM (Kd.R_below (RD HO_582001) hb), AsM (Kd.R_below (RD HO604) hb), AsM (blk_below (BD BK581) hb), AsM (below_step BG hb), AsM (hbox), AsM ((GM : w.heap.size ≤ gb606)), AsM ((GM : w.heap.size ≤ gb606)), AsM ((by rw [hg]; exact Nat.ne_of_lt (blk_lt (BD BK581)) : gb581 ≠ gb606)), AsM ((by rw [hg]; exact Nat.ne_of_gt (blk_lt (BD BK581)) : gb606 ≠ gb581))⟩; clear HO_4 HO_27 HO_582001 HO604 BK581 HB; obtain ⟨HO_4, HO_27, HO_582001, HO604, BK581, HB, BK606, GW606, GE606, NB581_606, NB606_581⟩ := n_; clear hb hbox hg; have hnb47 := NB606_581.out; have hnc47 := NB581_606.out; obtain ⟨hcz48_0, hcz48_1, hfz48_0, hfz48_1⟩ := bk2 BK606.out; obtain ⟨Ao49, co49, eo49⟩ := Kd.R_slice HO604.out; subst eo49; obtain ⟨hcz50_0, hcz50_1, hfz50_0, hfz50_1⟩ := bk2 BK581.out) | ((with_reducible refine gate_callee (f := 12) rfl ?_); refine goesL_ (some 70) rfl rfl Try.func12 (by kernel_rfl) rfl #[.slice Ao24 x4_1.length co24, .string (rdOf ByteArray.empty t586 x29_1)] rfl AQ ?_; (with_reducible refine (laws_but.calls k1 _ _ x4_1 (rdOf ByteArray.empty t586 x29_1) t607 _ ?side1 ?side2 A42.out).mono ?_); (case side1 => refine (Kd.R_reads' (e := 9) (base := w.heap.size) (ok := fun k_ => some k_ ≠ (.slice (some ad589) t586.length co16 : Value).ownBlock) (n := x4_1.length) (c := co24) ?_).2.2; exact (laws_FnTable.z2)); (case side2 => exact (Kd.R_reads' HO_4.out).2.1); rintro e w51 ⟨v608, rfl, ho0, hb⟩; refine ⟨_, rfl, ?_⟩; have n_ : _ ∧ _ ∧ _ ∧ _ ∧ _ ∧ _ ∧ _ ∧ _ := ⟨AsM (Kd.R_elder' (laws_FnTable.z2) (Kd.R_base ho0) hb), AsM (Kd.R_elder' (by refine PRx ?_; exact (Kd.R_mono (FM (FR (FR (Kd.R_far (p := ⟨gb606, 1, none⟩) (Kd.R_far (p := ⟨gb606, 0, none⟩) (Kd.R_types (Kd.R_types HO_27.out BK606.out (by decide)) BK581.out (by decide)) (fun _ hk => hk.1.2) (.int .i64 t601)) (fun _ hk => hk.1.2) (.slice Ao49 t602.length co49))))) (fun _ h_ => h_.1))) (Kd.R_base ho0) hb), AsM (Kd.R_below (by refine PRx ?_; exact (Kd.R_mono (FM (FR (FR (Kd.R_far (p := ⟨gb606, 1, none⟩) (Kd.R_far (p := ⟨gb606, 0, none⟩) (Kd.R_types (Kd.R_types HO_582001.out BK606.out (by decide)) BK581.out (by decide)) (fun _ hk => hk.1.2) (.int .i64 t601)) (fun _ hk => hk.1.2) (.slice Ao49 t602.length co49))))) (fun _ h_ => h_.1))) hb), AsM (Kd.R_below (by refine PRx ?_; exact (Kd.R_mono (FM (FR (FR (Kd.R_far (p := ⟨gb606, 1, none⟩) (Kd.R_far (p := ⟨gb606, 0, none⟩) (Kd.R_types (Kd.R_types HO604.out BK606.out (by decide)) BK581.out (by decide)) (fun _ hk => hk.1.2) (.int .i64 t601)) (fun _ hk => hk.1.2) (.slice Ao49 t602.length co49))))) (fun _ h_ => h_.1))) hb), AsM (Kd.R_lower (Kd.R_new' (Kd.R_new' ho0 (Kd.R_lt (laws_FnTable.z2))) (Kd.R_lt (by refine PRx ?_; exact (Kd.R_mono (FM (FR (FR (Kd.R_far (p := ⟨gb606, 1, none⟩) (Kd.R_far (p := ⟨gb606, 0, none⟩) (Kd.R_types (Kd.R_types HO_27.out BK606.out (by decide)) BK581.out (by decide)) (fun _ hk => hk.1.2) (.int .i64 t601)) (fun _ hk => hk.1.2) (.slice Ao49 t602.length co49))))) (fun _ h_ => h_.1))))) (below_size BG)), AsM (blk_below (g := gb581) (o := .cells #[.int .i64 t601, .slice Ao49 t602.length co49] 25 (0, 0)) (by refine PX ?_; refine blk_put (cs := #[.int .i64 t601, .slice Ao26 x582001_1.length co26]) ?_ 1 _ rfl; refine PX ?_; refine blk_put (cs := #[.int .i64 x582000_1, .slice Ao26 x582001_1.length co26]) ?_ 0 _ rfl; refine PX ?_; refine blk_far ?_ NB581_606.out _; refine PX ?_; refine blk_far ?_ NB581_606.out _; exact BD BK581) hb), AsM (blk_below (g := gb606) (o := .cells #[.int .i64 t601, .slice Ao49 t602.length co49] 25 (0, 0)) (by refine PX ?_; refine blk_far ?_ NB606_581.out _; refine PX ?_; refine blk_far ?_ NB606_581.out _; refine PX ?_; refine blk_put (cs := #[.int .i64 t601, .slice none 0 0]) ?_ 1 _ rfl; refine PX ?_; refine blk_put (cs := #[.int .i64 0, .slice none 0 0]) ?_ 0 _ rfl; exact BD BK606) hb), AsM (below_step BG hb)⟩; clear HO_4 HO_27 HO_582001 HO604 BK581 BK606 HB; obtain ⟨HO_4, HO_27, HO_582001, HO604, HO609, BK581, BK606, HB⟩ := n_; (try clear hb); (try clear hb2); (try clear hk); (try clear hi); (try clear ho0)) | ((with_reducible refine gate_builtin (b := .append) (xs := #[.tmp 70, .tmp 72]) rfl ?_); (try (refine gate_guard (by rfl) ?_; dsimp only)); at_builtin; refine Kd.R_append Kd.string (w0 := w) w.heap.size rfl (.tmp 70) (.tmp 72) 27 9 (.string ⟨#[]⟩) 16 rfl Try.underlying27 info9 rfl (by decide) (by omega) v608 t607 (rdOf ByteArray.empty t586 x29_1) [.string (rdOf ByteArray.empty t586 x29_1)] (fun k_ => some k_ ≠ (.slice Ao24 x4_1.length co24 : Value).ownBlock ∧ some k_ ≠ (.slice (some ad589) t586.length co16 : Value).ownBlock) (fun _ => False) rfl rfl ?aP (fun _ hk => hk.elim) ?aF ?aO ?aB ?aS ?aL ?_; (case aP => exact rfl); (case aB => exact BG); (case aF => exact (fun k_ hk => ⟨Kd.fresh' (Kd.R_lt (RD HO_4)) k_ hk, Kd.fresh' (Kd.R_lt (RD HO_27)) k_ hk⟩)); (case aO => exact (by refine PRx ?_; exact Kd.R_mono HO609.out (fun _ hk => ⟨hk.1.2, hk.2⟩))); (case aS => exact (below_size BG)); (case aL => have := LMc43.out; omega); intro v611 w52 ho hb hg hat; rw [← Ny610.out] at ho; have n_ : _ ∧ _ ∧ _ ∧ _ ∧ _ ∧ _ ∧ _ ∧ _ := ⟨AsM (Kd.R_after (ok := (fun k_ => some k_ ≠ (.slice (some ad589) t586.length co16 : Value).ownBlock)) (RD HO_4) hg hat), AsM (Kd.R_after (ok := (fun k_ => some k_ ≠ (.slice Ao24 x4_1.length co24 : Value).ownBlock)) (RD HO_27) hg hat), AsM (Kd.R_over' (RD HO_582001) (Kd.R_typed (RD HO609)) (by decide) hg), AsM (blk_grown (g := gb581) (o := .cells #[.int .i64 t601, .slice Ao49 t602.length co49] 25 (0, 0)) (BD BK581) hg (Kd.R_ne HO609.out BK581.out (by decide))), AsM (Kd.R_over' (RD HO604) (Kd.R_typed (RD HO609)) (by decide) hg), AsM (blk_grown (g := gb606) (o := .cells #[.int .i64 t601, .slice Ao49 t602.length co49] 25 (0, 0)) (BD BK606) hg (Kd.R_ne HO609.out BK606.out (by decide))), AsM (hb), AsM (ho)⟩; clear HO_4 HO_27 HO_582001 BK581 HO604 BK606 HB HO609; obtain ⟨HO_4, HO_27, HO_582001, BK581, HO604, BK606, HB, HO612⟩ := n_; clear ho hb hg hat))
             go_meet
             case rel => exact ⟨_, (y610), (t601), (t602), (.slice Ao49 t602.length co49), H', ⟨by have := HK1.out; first | omega | exact Nat.le_refl _⟩, ⟨by refine PRx ?_; exact Kd.R_mono HO612.out (fun _ hk => hk.2)⟩, ⟨by refine PRx ?_; exact Kd.R_mono HO_27.out (fun _ hk => hk.2)⟩, ⟨by refine PRx ?_; exact Kd.R_mono HO604.out (fun _ hk => trivial)⟩, ⟨BD BK581⟩, ⟨by repeat (first | (with_reducible first | exact HB.out | apply below_alloc | apply pw_below_drewN | apply below_drew1 | refine below_set ?_ GE581.out | refine below_set ?_ GE606.out) | exact HB.out)⟩⟩
            ·rw [if_neg c43] at H
             exact absurd H (by simp)
         case rest =>
          clear HC23
          try clear c1
          try clear c2
          try clear c2b0
          try clear c2b1
          try clear p2
          try clear c3
          try clear c4
          try clear c5
          try clear p5
          try clear q5
          try clear hx5
          try clear c6
          try clear c7
          try clear c8
          try clear c9
          try clear c10
          try clear c11
          try clear c12
          try clear c13
          try clear c17
          try clear c17b0
          try clear c18
          try clear c18b0
          try clear c19
          try clear c19b0
          try clear c22
          try clear c22b0
          try clear c22b1
          try clear c22b2
          try clear c28
          try clear c28b0
          try clear c28b1
          try clear c30
          try clear c30b0
          try clear c30b1
          try clear c30b2
          try clear c35
          try clear c41
          try clear c41b0
          try clear c41b1
          try clear c41b2
          try clear c43
          try clear c47
          try clear hcz10_0
          try clear hcz10_1
          try clear hcz13_0
          try clear hcz13_1
          try clear hcz25_0
          try clear hcz25_1
          try clear hcz32_0
          try clear hcz32_1
          try clear hcz36_0
          try clear hcz36_1
          try clear hcz38_0
          try clear hcz38_1
          try clear hcz44_0
          try clear hcz44_1
          try clear hcz48_0
          try clear hcz48_1
          try clear hcz50_0
          try clear hcz50_1
          try clear hfz10_0
          try clear hfz10_1
          try clear hfz13_0
          try clear hfz13_1
          try clear hfz25_0
          try clear hfz25_1
          try clear hfz32_0
          try clear hfz32_1
          try clear hfz36_0
          try clear hfz36_1
          try clear hfz38_0
          try clear hfz38_1
          try clear hfz44_0
          try clear hfz44_1
          try clear hfz48_0
          try clear hfz48_1
          try clear hfz50_0
          try clear hfz50_1
          try clear hx589_0
          try clear p2
          try clear p589
          try clear q589
          obtain ⟨kq, x4_22, x582000_22, x582001_22, u582001, HA, HJ22, HO_4, HO_27, HO_582001, BK581, HB⟩ := hcut
          cases kq with
          | zero => exact absurd HA.out (by simp [laws_FnTable.j1])
          | succ kj22 =>
           have H := HA.out
           clear HA
           simp only [laws_FnTable.j1] at H
           replace H := BS H
           obtain ⟨⟨t613, t614, t617⟩, A530, H⟩ := H
           have A53 := Aside0.mk A530
           clear A530
           have HC54 := Aside0.mk H
           clear H
           obtain ⟨hcz55_0, hcz55_1, hfz55_0, hfz55_1⟩ := bk2 BK581.out
           obtain ⟨Ao56, co56, eo56⟩ := Kd.R_slice HO_582001.out
           subst eo56
           go_upto_region 25 with (first | ((with_reducible refine gate_callee (f := 14) rfl ?_); refine goesL_ (some 76) rfl rfl Try.func14 (by kernel_rfl) rfl #[.agg #[.int .i64 x582000_22, .slice Ao56 x582001_22.length co56]] rfl AQ ?_; (with_reducible refine (impl_Grow.calls kj22 x582000_22 _ _ x582001_22 t613 t614 t617 _ ?side1 ?side2 A53.out).mono ?_); (case side1 => exact SR HO_582001); (case side2 => exact (Kd.R_reads' HO_582001.out).2.1); rintro e w57 ⟨v615, rfl, ho0, hb⟩; refine ⟨_, rfl, ?_⟩; have n_ : _ ∧ _ ∧ _ ∧ _ ∧ _ ∧ _ := ⟨AsM (Kd.R_below (RD HO_4) hb), AsM (Kd.R_below (RD HO_27) hb), AsM (Kd.R_elder' (RD HO_582001) (Kd.R_base ho0) hb), AsM (Kd.R_lower (Kd.R_new' ho0 (Kd.R_lt (RD HO_582001))) (below_size BG)), AsM (blk_below (BD BK581) hb), AsM (below_step BG hb)⟩; clear HO_4 HO_27 HO_582001 BK581 HB; obtain ⟨HO_4, HO_27, HO_582001, HO616, BK581, HB⟩ := n_; (try clear hb); (try clear hb2); (try clear hk); (try clear hi); (try clear ho0)) | ((with_reducible refine gate_dst (N := 12) rfl ?_); (try (refine gate_guard (by rfl) ?_; dsimp only)); refine box_event ?hg (N := 12) ?hd (cs := #[.int .i64 0, .slice none 0 0]) (t := 25) ?hr ?_; (case hd => rfl); (case hg => rfl); (case hr => first | (go_simp; done) | (go_simp; rfl)); intro gb618 hg w58 hbox hb; have n_ : _ ∧ _ ∧ _ ∧ _ ∧ _ ∧ _ ∧ _ ∧ _ ∧ _ ∧ _ ∧ _ := ⟨AsM (Kd.R_below (RD HO_4) hb), AsM (Kd.R_below (RD HO_27) hb), AsM (Kd.R_below (RD HO_582001) hb), AsM (Kd.R_below (RD HO616) hb), AsM (blk_below (BD BK581) hb), AsM (below_step BG hb), AsM (hbox), AsM ((GM : w.heap.size ≤ gb618)), AsM ((GM : w.heap.size ≤ gb618)), AsM ((by rw [hg]; exact Nat.ne_of_lt (blk_lt (BD BK581)) : gb581 ≠ gb618)), AsM ((by rw [hg]; exact Nat.ne_of_gt (blk_lt (BD BK581)) : gb618 ≠ gb581))⟩; clear HO_4 HO_27 HO_582001 HO616 BK581 HB; obtain ⟨HO_4, HO_27, HO_582001, HO616, BK581, HB, BK618, GW618, GE618, NB581_618, NB618_581⟩ := n_; clear hb hbox hg; have hnb59 := NB618_581.out; have hnc59 := NB581_618.out; obtain ⟨hcz60_0, hcz60_1, hfz60_0, hfz60_1⟩ := bk2 BK618.out; obtain ⟨Ao61, co61, eo61⟩ := Kd.R_slice HO616.out; subst eo61))
           (try simp only [Act.put, List.setIfInBounds_toArray, List.set_cons_zero, List.set_cons_succ])
           go_cut [97] (fun v97 wc => ∃ (kq : Nat) (x97_53 : Bool), v97 = .bool x97_53 ∧ Aside0 (laws_FnTable.j2 kq x4_22 x29_1 t586 (t586.length : Int) x29_1 x97_53 x582000_22 x582001_22 t613 t614 = some r) ∧ Aside0 (kq ≤ kj22) ∧ Aside0 (Kd.R Kd.string 9 wc w.heap.size (fun k_ => some k_ ≠ ((.slice (some ad589) t586.length co16) : Value).ownBlock) u4 x4_22) ∧ Aside0 (Kd.R Kd.string 9 wc w.heap.size (fun k_ => some k_ ≠ (u4 : Value).ownBlock) (.slice (some ad589) t586.length co16) t586) ∧ Aside0 (Kd.R k49 49 wc w.heap.size (fun k_ => some k_ ≠ ((.slice Ao61 t614.length co61) : Value).ownBlock) (.slice Ao56 x582001_22.length co56) x582001_22) ∧ Aside0 (Kd.R k49 49 wc w.heap.size (fun k_ => some k_ ≠ ((.slice Ao56 x582001_22.length co56) : Value).ownBlock) (.slice Ao61 t614.length co61) t614) ∧ Aside0 (wc.heap[gb581]? = some (.cells #[.int .i64 x582000_22, (.slice Ao56 x582001_22.length co56)] 25 (0, 0))) ∧ Aside0 (wc.heap[gb618]? = some (.cells #[.int .i64 t613, (.slice Ao61 t614.length co61)] 25 (0, 0))) ∧ Aside0 (Below w.heap.size w wc))
           case first =>
            have H := HC54.out
            clear HC54
            replace H := BS H
            obtain ⟨t619, A620, H⟩ := H
            have A62 := Aside0.mk A620
            clear A620
            by_cases c63 : t619 = true
            ·subst c63
             replace H := IP H
             replace H := BS H
             obtain ⟨t620, A640, H⟩ := H
             have A64 := Aside0.mk A640
             clear A640
             replace H := BS H
             obtain ⟨t623, A650, H⟩ := H
             have A65 := Aside0.mk A650
             clear A650
             replace H := BS H
             obtain ⟨t626, A660, H⟩ := H
             have A66 := Aside0.mk A660
             clear A660
             by_cases c67 : t626 = true
             ·subst c67
              replace H := IP H
              replace H := BS H
              obtain ⟨t627, A680, H⟩ := H
              have A68 := Aside0.mk A680
              clear A680
              have H' := Aside0.mk H
              clear H
              try go_wp2
              have n0_ : Aside0 (Kd.R Kd.string 9 ((w58.setCell ⟨gb618, 0, none⟩ (.int .i64 t613)).setCell ⟨gb618, 1, none⟩ (.slice Ao61 t614.length co61)) w.heap.size (fun k_ => some k_ ≠ (.slice (some ad589) t586.length co16 : Value).ownBlock) u4 x4_22) := ⟨laws_FnTable.z9⟩
              have n1_ : Aside0 (Kd.R Kd.string 9 ((w58.setCell ⟨gb618, 0, none⟩ (.int .i64 t613)).setCell ⟨gb618, 1, none⟩ (.slice Ao61 t614.length co61)) w.heap.size (fun k_ => some k_ ≠ (u4 : Value).ownBlock) (.slice (some ad589) t586.length co16) t586) := ⟨laws_FnTable.z8⟩
              have n2_ : Aside0 (Kd.R k49 49 ((w58.setCell ⟨gb618, 0, none⟩ (.int .i64 t613)).setCell ⟨gb618, 1, none⟩ (.slice Ao61 t614.length co61)) w.heap.size (fun k_ => some k_ ≠ (.slice Ao61 t614.length co61 : Value).ownBlock) (.slice Ao56 x582001_22.length co56) x582001_22) := ⟨laws_FnTable.z6⟩
              have n3_ : Aside0 (Kd.R k49 49 ((w58.setCell ⟨gb618, 0, none⟩ (.int .i64 t613)).setCell ⟨gb618, 1, none⟩ (.slice Ao61 t614.length co61)) w.heap.size (fun k_ => some k_ ≠ (.slice Ao56 x582001_22.length co56 : Value).ownBlock) (.slice Ao61 t614.length co61) t614) := ⟨laws_FnTable.z7⟩
              have n4_ : Aside0 (((w58.setCell ⟨gb618, 0, none⟩ (.int .i64 t613)).setCell ⟨gb618, 1, none⟩ (.slice Ao61 t614.length co61)).heap[gb581]? = some (.cells #[.int .i64 x582000_22, .slice Ao56 x582001_22.length co56] 25 (0, 0))) := ⟨laws_FnTable.z5⟩
              have n5_ : Aside0 (((w58.setCell ⟨gb618, 0, none⟩ (.int .i64 t613)).setCell ⟨gb618, 1, none⟩ (.slice Ao61 t614.length co61)).heap[gb618]? = some (.cells #[.int .i64 t613, .slice Ao61 t614.length co61] 25 (0, 0))) := ⟨laws_FnTable.z3⟩
              have n6_ : Aside0 (Below w.heap.size w ((w58.setCell ⟨gb618, 0, none⟩ (.int .i64 t613)).setCell ⟨gb618, 1, none⟩ (.slice Ao61 t614.length co61))) := ⟨laws_FnTable.z0⟩
              (try clear HO_4)
              (try clear HO_27)
              (try clear HO_582001)
              (try clear HO616)
              (try clear BK581)
              (try clear BK618)
              (try clear HB)
              generalize ((w58.setCell ⟨gb618, 0, none⟩ (.int .i64 t613)).setCell ⟨gb618, 1, none⟩ (.slice Ao61 t614.length co61)) = w69 at n0_ n1_ n2_ n3_ n4_ n5_ n6_ ⊢
              have HO_4 := n0_
              have HO_27 := n1_
              have HO_582001 := n2_
              have HO616 := n3_
              have BK581 := n4_
              have BK618 := n5_
              have HB := n6_
              clear n0_ n1_ n2_ n3_ n4_ n5_ n6_
              have n_ : _ ∧ _ ∧ _ ∧ _ ∧ _ ∧ _ ∧ _ := ⟨AsM (Kd.R_drew HO_4.out), AsM (Kd.R_drew HO_27.out), AsM (Kd.R_drew HO_582001.out), AsM (Kd.R_drew HO616.out), AsM (blk_drew BK581.out), AsM (blk_drew BK618.out), AsM (below_drew1 HB.out)⟩
              clear HO_4 HO_27 HO_582001 HO616 BK581 BK618 HB
              obtain ⟨HO_4, HO_27, HO_582001, HO616, BK581, BK618, HB⟩ := n_
              refine start_ (n := 19) (S := fun w' => w'.cell? ⟨gb581, 0, none⟩ = some (.int .i64 x582000_22) ∧ w'.cell? ⟨gb581, 1, none⟩ = some (.slice Ao56 x582001_22.length co56) ∧ w'.cell? ⟨gb618, 0, none⟩ = some (.int .i64 t613) ∧ w'.cell? ⟨gb618, 1, none⟩ = some (.slice Ao61 t614.length co61)) (ds := []) #[false, false, false, false, false, false, false, false, false, false, false, false, false, false, false, false, false, false, false] (by kernel_rfl) rfl rfl ⟨(blk_cell BK581.out 0).trans rfl, (blk_cell BK581.out 1).trans rfl, (blk_cell BK618.out 0).trans rfl, (blk_cell BK618.out 1).trans rfl⟩ (fun hHeld => ?_); refine with_tabW laws_FnTable.tab25 laws_FnTable.bits25 (fun HT_ HW_ => ?_)
              generalize w69.drew = w70 at HO_4 HO_27 HO_582001 HO616 BK581 BK618 HB hHeld ⊢
              refine PT (i := 0) (N := some 79) (tf 1 18) rfl rfl HT_ HW_ hHeld ?_
              refine one_ (i := 1) (N := some 80) (tf 2 17) rfl rfl (one_of HT_.out (by kernel_rfl)) (by decide) (fun K hK => ?_)
              refine goes_ Try.func7 (by kernel_rfl) rfl #[.agg #[.int .i64 x582000_22, .slice Ao56 x582001_22.length co56]] (by rfl) rfl rfl AQ ?_
              with_reducible refine (impl_TableOk.calls kj22 x582000_22 _ _ x582001_22 true _ ?side1 ?side2 A62.out).mono ?_
              (case side1 => exact SR HO_582001)
              (case side2 => exact (Kd.R_reads' HO_582001.out).2.1)
              rintro e w71 ⟨rfl, hb⟩
              refine ⟨_, rfl, ?_⟩
              have n_ : _ ∧ _ ∧ _ ∧ _ ∧ _ ∧ _ ∧ _ := ⟨AsM (Kd.R_below (RD HO_4) hb), AsM (Kd.R_below (RD HO_27) hb), AsM (Kd.R_below (RD HO_582001) hb), AsM (Kd.R_below (RD HO616) hb), AsM (blk_below (BD BK581) hb), AsM (blk_below (BD BK618) hb), AsM (below_step BG hb)⟩
              clear HO_4 HO_27 HO_582001 HO616 BK581 BK618 HB
              obtain ⟨HO_4, HO_27, HO_582001, HO616, BK581, BK618, HB⟩ := n_
              (try clear hb)
              (try clear hb2)
              (try clear hk)
              (try clear hi)
              refine hK.out _ _ ⟨(blk_cell BK581.out 0).trans rfl, (blk_cell BK581.out 1).trans rfl, (blk_cell BK618.out 0).trans rfl, (blk_cell BK618.out 1).trans rfl⟩ (fun hHeld => ?_)
              clear hK K
              refine NM (some 80) ?_
              refine PU (i := 2) (N := some 81) (tf 3 16) rfl rfl HT_ ?_
              refine PU (i := 3) (N := some 82) (tf 4 15) rfl rfl HT_ ?_
              refine PT (i := 4) (N := some 83) (tf 5 14) rfl rfl HT_ HW_ hHeld ?_
              refine PT (i := 6) (N := some 85) #[true, true, true, true, true, false, true, false, false, false, false, false, false, false, false, false, false, false, false] rfl rfl HT_ HW_ hHeld ?_
              refine one_ (i := 5) (N := some 84) (tf 7 12) rfl rfl (one_of HT_.out (by kernel_rfl)) (by decide) (fun K hK => ?_)
              refine goes_ Try.func6 (by kernel_rfl) rfl #[.agg #[.int .i64 t613, .slice Ao61 t614.length co61]] (by rfl) rfl rfl AQ ?_
              with_reducible refine (impl_Keys.calls kj22 t613 _ _ t614 t620 _ ?side1 ?side2 A64.out).mono ?_
              (case side1 => exact SR HO616)
              (case side2 => exact (Kd.R_reads' HO616.out).2.1)
              rintro e w72 ⟨v621, rfl, ho0, hb⟩
              refine ⟨_, rfl, ?_⟩
              have n_ : _ ∧ _ ∧ _ ∧ _ ∧ _ ∧ _ ∧ _ ∧ _ := ⟨AsM (Kd.R_elder' (RD HO_4) (Kd.R_base ho0) hb), AsM (Kd.R_elder' (RD HO_27) (Kd.R_base ho0) hb), AsM (Kd.R_below (RD HO_582001) hb), AsM (Kd.R_below (RD HO616) hb), AsM (Kd.R_lower (Kd.R_new' (Kd.R_new' ho0 (Kd.R_lt (RD HO_4))) (Kd.R_lt (RD HO_27))) (below_size BG)), AsM (blk_below (BD BK581) hb), AsM (blk_below (BD BK618) hb), AsM (below_step BG hb)⟩
              clear HO_4 HO_27 HO_582001 HO616 BK581 BK618 HB
              obtain ⟨HO_4, HO_27, HO_582001, HO616, HO622, BK581, BK618, HB⟩ := n_
              (try clear hb)
              (try clear hb2)
              (try clear hk)
              (try clear hi)
              (try clear ho0)
              refine hK.out _ _ ⟨(blk_cell BK581.out 0).trans rfl, (blk_cell BK581.out 1).trans rfl, (blk_cell BK618.out 0).trans rfl, (blk_cell BK618.out 1).trans rfl⟩ (fun hHeld => ?_)
              clear hK K
              refine NM (some 84) ?_
              refine one_ (i := 7) (N := some 86) (tf 8 11) rfl rfl (one_of HT_.out (by kernel_rfl)) (by decide) (fun K hK => ?_)
              refine goes_ Try.func6 (by kernel_rfl) rfl #[.agg #[.int .i64 x582000_22, .slice Ao56 x582001_22.length co56]] (by rfl) rfl rfl AQ ?_
              with_reducible refine (impl_Keys.calls kj22 x582000_22 _ _ x582001_22 t623 _ ?side1 ?side2 A65.out).mono ?_
              (case side1 => exact SR HO_582001)
              (case side2 => exact (Kd.R_reads' HO_582001.out).2.1)
              rintro e w73 ⟨v624, rfl, ho0, hb⟩
              refine ⟨_, rfl, ?_⟩
              have n_ : _ ∧ _ ∧ _ ∧ _ ∧ _ ∧ _ ∧ _ ∧ _ ∧ _ := ⟨AsM (Kd.R_elder' (RD HO_4) (Kd.R_base ho0) hb), AsM (Kd.R_elder' (RD HO_27) (Kd.R_base ho0) hb), AsM (Kd.R_below (RD HO_582001) hb), AsM (Kd.R_below (RD HO616) hb), AsM (Kd.R_elder' (RD HO622) (Kd.R_base ho0) hb), AsM (Kd.R_lower (Kd.R_new' (Kd.R_new' (Kd.R_new' ho0 (Kd.R_lt (RD HO_4))) (Kd.R_lt (RD HO_27))) (Kd.R_lt (RD HO622))) (below_size BG)), AsM (blk_below (BD BK581) hb), AsM (blk_below (BD BK618) hb), AsM (below_step BG hb)⟩
              clear HO_4 HO_27 HO_582001 HO616 HO622 BK581 BK618 HB
              obtain ⟨HO_4, HO_27, HO_582001, HO616, HO622, HO625, BK581, BK618, HB⟩ := n_
              (try clear hb)
              (try clear hb2)
              (try clear hk)
              (try clear hi)
              (try clear ho0)
              obtain ⟨Ao74, co74, eo74⟩ := Kd.R_slice HO622.out
              (first | subst eo74 | (injection eo74 with f1_ f2_ f3_; have f4_ := f1_.symm; have f5_ := f3_.symm; clear f1_ f2_ f3_; subst f4_; subst f5_))
              obtain ⟨Ao75, co75, eo75⟩ := Kd.R_slice HO625.out
              (first | subst eo75 | (injection eo75 with f1_ f2_ f3_; have f4_ := f1_.symm; have f5_ := f3_.symm; clear f1_ f2_ f3_; subst f4_; subst f5_))
              refine hK.out _ _ ⟨(blk_cell BK581.out 0).trans rfl, (blk_cell BK581.out 1).trans rfl, (blk_cell BK618.out 0).trans rfl, (blk_cell BK618.out 1).trans rfl⟩ (fun hHeld => ?_)
              clear hK K
              refine NM (some 86) ?_
              refine one_ (i := 8) (N := some 87) (tf 9 10) rfl rfl (one_of HT_.out (by kernel_rfl)) (by decide) (fun K hK => ?_)
              refine goes_ Try.func15 (by kernel_rfl) rfl #[.slice Ao74 t620.length co74, .slice Ao75 t623.length co75] (by rfl) rfl rfl AQ ?_
              with_reducible refine (laws_sameTexts.calls kj22 _ _ t620 _ _ t623 true _ ?side1 ?side2 ?side3 ?side4 A66.out).mono ?_
              (case side1 => exact SR HO622)
              (case side2 => exact (Kd.R_reads' HO622.out).2.1)
              (case side3 => exact SR HO625)
              (case side4 => exact (Kd.R_reads' HO625.out).2.1)
              rintro e w' ⟨rfl, ⟨nd, rfl⟩⟩
              refine ⟨_, rfl, ?_⟩
              refine hK.out _ _ ⟨(blk_cell BK581.out 0).trans rfl, (blk_cell BK581.out 1).trans rfl, (blk_cell BK618.out 0).trans rfl, (blk_cell BK618.out 1).trans rfl⟩ (fun hHeld => ?_)
              clear hK K
              refine NM (some 87) ?_
              refine PU (i := 9) (N := some 88) (tf 10 9) rfl rfl HT_ ?_
              refine PU (i := 10) (N := some 89) (tf 11 8) rfl rfl HT_ ?_
              refine PU (i := 11) (N := some 90) (tf 12 7) rfl rfl HT_ ?_
              obtain ⟨Aox, cox, eox⟩ := Kd.R_slice HO_4.out
              (first | subst eox | (injection eox with f1_ f2_ f3_; have f4_ := f1_.symm; have f5_ := f3_.symm; clear f1_ f2_ f3_; subst f4_; subst f5_))
              refine PU (i := 15) (N := some 94) #[true, true, true, true, true, true, true, true, true, true, true, true, false, false, false, true, false, false, false] rfl rfl HT_ ?_
              refine PU (i := 16) (N := some 95) #[true, true, true, true, true, true, true, true, true, true, true, true, false, false, false, true, true, false, false] rfl rfl HT_ ?_
              refine PT (i := 12) (N := some 91) #[true, true, true, true, true, true, true, true, true, true, true, true, true, false, false, true, true, false, false] rfl rfl HT_ HW_ hHeld ?_
              refine one_ (i := 13) (N := some 92) #[true, true, true, true, true, true, true, true, true, true, true, true, true, true, false, true, true, false, false] rfl rfl (one_of HT_.out (by kernel_rfl)) (by decide) (fun K hK => ?_)
              refine goes_ Try.func6 (by kernel_rfl) rfl #[.agg #[.int .i64 x582000_22, .slice Ao56 x582001_22.length co56]] (by rfl) rfl rfl AQ ?_
              with_reducible refine (impl_Keys.calls kj22 x582000_22 _ _ x582001_22 t627 _ ?side1 ?side2 A68.out).mono ?_
              (case side1 => exact SR HO_582001)
              (case side2 => exact (Kd.R_reads' HO_582001.out).2.1)
              rintro e w76 ⟨v628, rfl, ho0, hb⟩
              refine ⟨_, rfl, ?_⟩
              have n_ : _ ∧ _ ∧ _ ∧ _ ∧ _ ∧ _ ∧ _ ∧ _ ∧ _ ∧ _ := ⟨AsM (Kd.R_elder' (RD HO_4) (Kd.R_base ho0) hb), AsM (Kd.R_elder' (RD HO_27) (Kd.R_base ho0) hb), AsM (Kd.R_below (RD HO_582001) hb), AsM (Kd.R_below (RD HO616) hb), AsM (Kd.R_elder' (RD HO622) (Kd.R_base ho0) hb), AsM (Kd.R_elder' (RD HO625) (Kd.R_base ho0) hb), AsM (Kd.R_lower (Kd.R_new' (Kd.R_new' (Kd.R_new' (Kd.R_new' ho0 (Kd.R_lt (RD HO_4))) (Kd.R_lt (RD HO_27))) (Kd.R_lt (RD HO622))) (Kd.R_lt (RD HO625))) (below_size BG)), AsM (blk_below (BD BK581) hb), AsM (blk_below (BD BK618) hb), AsM (below_step BG hb)⟩
              clear HO_4 HO_27 HO_582001 HO616 HO622 HO625 BK581 BK618 HB
              obtain ⟨HO_4, HO_27, HO_582001, HO616, HO622, HO625, HO629, BK581, BK618, HB⟩ := n_
              (try clear hb)
              (try clear hb2)
              (try clear hk)
              (try clear hi)
              (try clear ho0)
              obtain ⟨Ao77, co77, eo77⟩ := Kd.R_slice HO629.out
              (first | subst eo77 | (injection eo77 with f1_ f2_ f3_; have f4_ := f1_.symm; have f5_ := f3_.symm; clear f1_ f2_ f3_; subst f4_; subst f5_))
              obtain ⟨Ao78, co78, eo78⟩ := Kd.R_slice HO_4.out
              (first | subst eo78 | (injection eo78 with f1_ f2_ f3_; have f4_ := f1_.symm; have f5_ := f3_.symm; clear f1_ f2_ f3_; subst f4_; subst f5_))
              refine hK.out _ _ ⟨(blk_cell BK581.out 0).trans rfl, (blk_cell BK581.out 1).trans rfl, (blk_cell BK618.out 0).trans rfl, (blk_cell BK618.out 1).trans rfl⟩ (fun hHeld => ?_)
              clear hK K
              refine NM (some 92) ?_
              refine PU (i := 14) (N := some 93) (tf 17 2) rfl rfl HT_ ?_
              refine PU (i := 17) (N := some 96) (tf 18 1) rfl rfl HT_ ?_
              refine PU (i := 18) (N := some 97) (tf 19 0) rfl rfl HT_ ?_
              refine done_ (done_of HT_.out (by kernel_rfl)) ?_
              try go_wp2
              go_meet
              case rel => exact ⟨_, (((t627.length : Int) != (x4_22.length : Int))), RS, H', ⟨laws_FnTable.z10⟩, ⟨by refine PRx ?_; exact Kd.R_mono HO_4.out (fun _ hk => hk.1.1.1)⟩, ⟨by refine PRx ?_; exact Kd.R_mono HO_27.out (fun _ hk => hk.1.1.1)⟩, ⟨RD HO_582001⟩, ⟨RD HO616⟩, ⟨BD BK581⟩, ⟨BD BK618⟩, ⟨laws_FnTable.z0⟩⟩
             ·replace c67 := Bool.eq_false_iff.mpr c67
              subst c67
              replace H := IN H
              have H' := Aside0.mk H
              clear H
              try go_wp2
              have n0_ : Aside0 (Kd.R Kd.string 9 ((w58.setCell ⟨gb618, 0, none⟩ (.int .i64 t613)).setCell ⟨gb618, 1, none⟩ (.slice Ao61 t614.length co61)) w.heap.size (fun k_ => some k_ ≠ (.slice (some ad589) t586.length co16 : Value).ownBlock) u4 x4_22) := ⟨laws_FnTable.z9⟩
              have n1_ : Aside0 (Kd.R Kd.string 9 ((w58.setCell ⟨gb618, 0, none⟩ (.int .i64 t613)).setCell ⟨gb618, 1, none⟩ (.slice Ao61 t614.length co61)) w.heap.size (fun k_ => some k_ ≠ (u4 : Value).ownBlock) (.slice (some ad589) t586.length co16) t586) := ⟨laws_FnTable.z8⟩
              have n2_ : Aside0 (Kd.R k49 49 ((w58.setCell ⟨gb618, 0, none⟩ (.int .i64 t613)).setCell ⟨gb618, 1, none⟩ (.slice Ao61 t614.length co61)) w.heap.size (fun k_ => some k_ ≠ (.slice Ao61 t614.length co61 : Value).ownBlock) (.slice Ao56 x582001_22.length co56) x582001_22) := ⟨laws_FnTable.z6⟩
              have n3_ : Aside0 (Kd.R k49 49 ((w58.setCell ⟨gb618, 0, none⟩ (.int .i64 t613)).setCell ⟨gb618, 1, none⟩ (.slice Ao61 t614.length co61)) w.heap.size (fun k_ => some k_ ≠ (.slice Ao56 x582001_22.length co56 : Value).ownBlock) (.slice Ao61 t614.length co61) t614) := ⟨laws_FnTable.z7⟩
              have n4_ : Aside0 (((w58.setCell ⟨gb618, 0, none⟩ (.int .i64 t613)).setCell ⟨gb618, 1, none⟩ (.slice Ao61 t614.length co61)).heap[gb581]? = some (.cells #[.int .i64 x582000_22, .slice Ao56 x582001_22.length co56] 25 (0, 0))) := ⟨laws_FnTable.z5⟩
              have n5_ : Aside0 (((w58.setCell ⟨gb618, 0, none⟩ (.int .i64 t613)).setCell ⟨gb618, 1, none⟩ (.slice Ao61 t614.length co61)).heap[gb618]? = some (.cells #[.int .i64 t613, .slice Ao61 t614.length co61] 25 (0, 0))) := ⟨laws_FnTable.z3⟩
              have n6_ : Aside0 (Below w.heap.size w ((w58.setCell ⟨gb618, 0, none⟩ (.int .i64 t613)).setCell ⟨gb618, 1, none⟩ (.slice Ao61 t614.length co61))) := ⟨laws_FnTable.z0⟩
              (try clear HO_4)
              (try clear HO_27)
              (try clear HO_582001)
              (try clear HO616)
              (try clear BK581)
              (try clear BK618)
              (try clear HB)
              generalize ((w58.setCell ⟨gb618, 0, none⟩ (.int .i64 t613)).setCell ⟨gb618, 1, none⟩ (.slice Ao61 t614.length co61)) = w79 at n0_ n1_ n2_ n3_ n4_ n5_ n6_ ⊢
              have HO_4 := n0_
              have HO_27 := n1_
              have HO_582001 := n2_
              have HO616 := n3_
              have BK581 := n4_
              have BK618 := n5_
              have HB := n6_
              clear n0_ n1_ n2_ n3_ n4_ n5_ n6_
              have n_ : _ ∧ _ ∧ _ ∧ _ ∧ _ ∧ _ ∧ _ := ⟨AsM (Kd.R_drew HO_4.out), AsM (Kd.R_drew HO_27.out), AsM (Kd.R_drew HO_582001.out), AsM (Kd.R_drew HO616.out), AsM (blk_drew BK581.out), AsM (blk_drew BK618.out), AsM (below_drew1 HB.out)⟩
              clear HO_4 HO_27 HO_582001 HO616 BK581 BK618 HB
              obtain ⟨HO_4, HO_27, HO_582001, HO616, BK581, BK618, HB⟩ := n_
              refine start_ (n := 19) (S := fun w' => w'.cell? ⟨gb581, 0, none⟩ = some (.int .i64 x582000_22) ∧ w'.cell? ⟨gb581, 1, none⟩ = some (.slice Ao56 x582001_22.length co56) ∧ w'.cell? ⟨gb618, 0, none⟩ = some (.int .i64 t613) ∧ w'.cell? ⟨gb618, 1, none⟩ = some (.slice Ao61 t614.length co61)) (ds := []) #[false, false, false, false, false, false, false, false, false, false, false, false, false, false, false, false, false, false, false] (by kernel_rfl) rfl rfl ⟨(blk_cell BK581.out 0).trans rfl, (blk_cell BK581.out 1).trans rfl, (blk_cell BK618.out 0).trans rfl, (blk_cell BK618.out 1).trans rfl⟩ (fun hHeld => ?_); refine with_tabW laws_FnTable.tab25 laws_FnTable.bits25 (fun HT_ HW_ => ?_)
              generalize w79.drew = w80 at HO_4 HO_27 HO_582001 HO616 BK581 BK618 HB hHeld ⊢
              refine PT (i := 0) (N := some 79) (tf 1 18) rfl rfl HT_ HW_ hHeld ?_
              refine one_ (i := 1) (N := some 80) (tf 2 17) rfl rfl (one_of HT_.out (by kernel_rfl)) (by decide) (fun K hK => ?_)
              refine goes_ Try.func7 (by kernel_rfl) rfl #[.agg #[.int .i64 x582000_22, .slice Ao56 x582001_22.length co56]] (by rfl) rfl rfl AQ ?_
              with_reducible refine (impl_TableOk.calls kj22 x582000_22 _ _ x582001_22 true _ ?side1 ?side2 A62.out).mono ?_
              (case side1 => exact SR HO_582001)
              (case side2 => exact (Kd.R_reads' HO_582001.out).2.1)
              rintro e w81 ⟨rfl, hb⟩
              refine ⟨_, rfl, ?_⟩
              have n_ : _ ∧ _ ∧ _ ∧ _ ∧ _ ∧ _ ∧ _ := ⟨AsM (Kd.R_below (RD HO_4) hb), AsM (Kd.R_below (RD HO_27) hb), AsM (Kd.R_below (RD HO_582001) hb), AsM (Kd.R_below (RD HO616) hb), AsM (blk_below (BD BK581) hb), AsM (blk_below (BD BK618) hb), AsM (below_step BG hb)⟩
              clear HO_4 HO_27 HO_582001 HO616 BK581 BK618 HB
              obtain ⟨HO_4, HO_27, HO_582001, HO616, BK581, BK618, HB⟩ := n_
              (try clear hb)
              (try clear hb2)
              (try clear hk)
              (try clear hi)
              refine hK.out _ _ ⟨(blk_cell BK581.out 0).trans rfl, (blk_cell BK581.out 1).trans rfl, (blk_cell BK618.out 0).trans rfl, (blk_cell BK618.out 1).trans rfl⟩ (fun hHeld => ?_)
              clear hK K
              refine NM (some 80) ?_
              refine PU (i := 2) (N := some 81) (tf 3 16) rfl rfl HT_ ?_
              refine PU (i := 3) (N := some 82) (tf 4 15) rfl rfl HT_ ?_
              refine PT (i := 4) (N := some 83) (tf 5 14) rfl rfl HT_ HW_ hHeld ?_
              refine PT (i := 6) (N := some 85) #[true, true, true, true, true, false, true, false, false, false, false, false, false, false, false, false, false, false, false] rfl rfl HT_ HW_ hHeld ?_
              refine one_ (i := 5) (N := some 84) (tf 7 12) rfl rfl (one_of HT_.out (by kernel_rfl)) (by decide) (fun K hK => ?_)
              refine goes_ Try.func6 (by kernel_rfl) rfl #[.agg #[.int .i64 t613, .slice Ao61 t614.length co61]] (by rfl) rfl rfl AQ ?_
              with_reducible refine (impl_Keys.calls kj22 t613 _ _ t614 t620 _ ?side1 ?side2 A64.out).mono ?_
              (case side1 => exact SR HO616)
              (case side2 => exact (Kd.R_reads' HO616.out).2.1)
              rintro e w82 ⟨v621, rfl, ho0, hb⟩
              refine ⟨_, rfl, ?_⟩
              have n_ : _ ∧ _ ∧ _ ∧ _ ∧ _ ∧ _ ∧ _ ∧ _ := ⟨AsM (Kd.R_elder' (RD HO_4) (Kd.R_base ho0) hb), AsM (Kd.R_elder' (RD HO_27) (Kd.R_base ho0) hb), AsM (Kd.R_below (RD HO_582001) hb), AsM (Kd.R_below (RD HO616) hb), AsM (Kd.R_lower (Kd.R_new' (Kd.R_new' ho0 (Kd.R_lt (RD HO_4))) (Kd.R_lt (RD HO_27))) (below_size BG)), AsM (blk_below (BD BK581) hb), AsM (blk_below (BD BK618) hb), AsM (below_step BG hb)⟩
              clear HO_4 HO_27 HO_582001 HO616 BK581 BK618 HB
              obtain ⟨HO_4, HO_27, HO_582001, HO616, HO622, BK581, BK618, HB⟩ := n_
              (try clear hb)
              (try clear hb2)
              (try clear hk)
              (try clear hi)
              (try clear ho0)
              refine hK.out _ _ ⟨(blk_cell BK581.out 0).trans rfl, (blk_cell BK581.out 1).trans rfl, (blk_cell BK618.out 0).trans rfl, (blk_cell BK618.out 1).trans rfl⟩ (fun hHeld => ?_)
              clear hK K
              refine NM (some 84) ?_
              refine one_ (i := 7) (N := some 86) (tf 8 11) rfl rfl (one_of HT_.out (by kernel_rfl)) (by decide) (fun K hK => ?_)
              refine goes_ Try.func6 (by kernel_rfl) rfl #[.agg #[.int .i64 x582000_22, .slice Ao56 x582001_22.length co56]] (by rfl) rfl rfl AQ ?_
              with_reducible refine (impl_Keys.calls kj22 x582000_22 _ _ x582001_22 t623 _ ?side1 ?side2 A65.out).mono ?_
              (case side1 => exact SR HO_582001)
              (case side2 => exact (Kd.R_reads' HO_582001.out).2.1)
              rintro e w83 ⟨v624, rfl, ho0, hb⟩
              refine ⟨_, rfl, ?_⟩
              have n_ : _ ∧ _ ∧ _ ∧ _ ∧ _ ∧ _ ∧ _ ∧ _ ∧ _ := ⟨AsM (Kd.R_elder' (RD HO_4) (Kd.R_base ho0) hb), AsM (Kd.R_elder' (RD HO_27) (Kd.R_base ho0) hb), AsM (Kd.R_below (RD HO_582001) hb), AsM (Kd.R_below (RD HO616) hb), AsM (Kd.R_elder' (RD HO622) (Kd.R_base ho0) hb), AsM (Kd.R_lower (Kd.R_new' (Kd.R_new' (Kd.R_new' ho0 (Kd.R_lt (RD HO_4))) (Kd.R_lt (RD HO_27))) (Kd.R_lt (RD HO622))) (below_size BG)), AsM (blk_below (BD BK581) hb), AsM (blk_below (BD BK618) hb), AsM (below_step BG hb)⟩
              clear HO_4 HO_27 HO_582001 HO616 HO622 BK581 BK618 HB
              obtain ⟨HO_4, HO_27, HO_582001, HO616, HO622, HO625, BK581, BK618, HB⟩ := n_
              (try clear hb)
              (try clear hb2)
              (try clear hk)
              (try clear hi)
              (try clear ho0)
              obtain ⟨Ao84, co84, eo84⟩ := Kd.R_slice HO622.out
              (first | subst eo84 | (injection eo84 with f1_ f2_ f3_; have f4_ := f1_.symm; have f5_ := f3_.symm; clear f1_ f2_ f3_; subst f4_; subst f5_))
              obtain ⟨Ao85, co85, eo85⟩ := Kd.R_slice HO625.out
              (first | subst eo85 | (injection eo85 with f1_ f2_ f3_; have f4_ := f1_.symm; have f5_ := f3_.symm; clear f1_ f2_ f3_; subst f4_; subst f5_))
              refine hK.out _ _ ⟨(blk_cell BK581.out 0).trans rfl, (blk_cell BK581.out 1).trans rfl, (blk_cell BK618.out 0).trans rfl, (blk_cell BK618.out 1).trans rfl⟩ (fun hHeld => ?_)
              clear hK K
              refine NM (some 86) ?_
              refine one_ (i := 8) (N := some 87) (tf 9 10) rfl rfl (one_of HT_.out (by kernel_rfl)) (by decide) (fun K hK => ?_)
              refine goes_ Try.func15 (by kernel_rfl) rfl #[.slice Ao84 t620.length co84, .slice Ao85 t623.length co85] (by rfl) rfl rfl AQ ?_
              with_reducible refine (laws_sameTexts.calls kj22 _ _ t620 _ _ t623 false _ ?side1 ?side2 ?side3 ?side4 A66.out).mono ?_
              (case side1 => exact SR HO622)
              (case side2 => exact (Kd.R_reads' HO622.out).2.1)
              (case side3 => exact SR HO625)
              (case side4 => exact (Kd.R_reads' HO625.out).2.1)
              rintro e w' ⟨rfl, ⟨nd, rfl⟩⟩
              refine ⟨_, rfl, ?_⟩
              refine hK.out _ _ ⟨(blk_cell BK581.out 0).trans rfl, (blk_cell BK581.out 1).trans rfl, (blk_cell BK618.out 0).trans rfl, (blk_cell BK618.out 1).trans rfl⟩ (fun hHeld => ?_)
              clear hK K
              refine NM (some 87) ?_
              refine PU (i := 9) (N := some 88) (tf 10 9) rfl rfl HT_ ?_
              refine PU (i := 10) (N := some 89) (tf 11 8) rfl rfl HT_ ?_
              refine PU (i := 11) (N := some 90) (tf 12 7) rfl rfl HT_ ?_
              refine PN (i := 12) (N := some 91) (tf 13 6) rfl rfl HT_ ?_
              refine PN (i := 13) (N := some 92) (tf 14 5) rfl rfl HT_ ?_
              refine PN (i := 14) (N := some 93) (tf 15 4) rfl rfl HT_ ?_
              refine PN (i := 15) (N := some 94) (tf 16 3) rfl rfl HT_ ?_
              refine PN (i := 16) (N := some 95) (tf 17 2) rfl rfl HT_ ?_
              refine PN (i := 17) (N := some 96) (tf 18 1) rfl rfl HT_ ?_
              refine PU (i := 18) (N := some 97) (tf 19 0) rfl rfl HT_ ?_
              refine done_ (done_of HT_.out (by kernel_rfl)) ?_
              try go_wp2
              go_meet
              case rel => exact ⟨_, (true), RS, H', ⟨laws_FnTable.z10⟩, ⟨by refine PRx ?_; exact Kd.R_mono HO_4.out (fun _ hk => hk.1.1)⟩, ⟨by refine PRx ?_; exact Kd.R_mono HO_27.out (fun _ hk => hk.1.1)⟩, ⟨RD HO_582001⟩, ⟨RD HO616⟩, ⟨BD BK581⟩, ⟨BD BK618⟩, ⟨laws_FnTable.z0⟩⟩
            ·replace c63 := Bool.eq_false_iff.mpr c63
             subst c63
             replace H := IN H
             have H' := Aside0.mk H
             clear H
             try go_wp2
             have n0_ : Aside0 (Kd.R Kd.string 9 ((w58.setCell ⟨gb618, 0, none⟩ (.int .i64 t613)).setCell ⟨gb618, 1, none⟩ (.slice Ao61 t614.length co61)) w.heap.size (fun k_ => some k_ ≠ (.slice (some ad589) t586.length co16 : Value).ownBlock) u4 x4_22) := ⟨laws_FnTable.z9⟩
             have n1_ : Aside0 (Kd.R Kd.string 9 ((w58.setCell ⟨gb618, 0, none⟩ (.int .i64 t613)).setCell ⟨gb618, 1, none⟩ (.slice Ao61 t614.length co61)) w.heap.size (fun k_ => some k_ ≠ (u4 : Value).ownBlock) (.slice (some ad589) t586.length co16) t586) := ⟨laws_FnTable.z8⟩
             have n2_ : Aside0 (Kd.R k49 49 ((w58.setCell ⟨gb618, 0, none⟩ (.int .i64 t613)).setCell ⟨gb618, 1, none⟩ (.slice Ao61 t614.length co61)) w.heap.size (fun k_ => some k_ ≠ (.slice Ao61 t614.length co61 : Value).ownBlock) (.slice Ao56 x582001_22.length co56) x582001_22) := ⟨laws_FnTable.z6⟩
             have n3_ : Aside0 (Kd.R k49 49 ((w58.setCell ⟨gb618, 0, none⟩ (.int .i64 t613)).setCell ⟨gb618, 1, none⟩ (.slice Ao61 t614.length co61)) w.heap.size (fun k_ => some k_ ≠ (.slice Ao56 x582001_22.length co56 : Value).ownBlock) (.slice Ao61 t614.length co61) t614) := ⟨laws_FnTable.z7⟩
             have n4_ : Aside0 (((w58.setCell ⟨gb618, 0, none⟩ (.int .i64 t613)).setCell ⟨gb618, 1, none⟩ (.slice Ao61 t614.length co61)).heap[gb581]? = some (.cells #[.int .i64 x582000_22, .slice Ao56 x582001_22.length co56] 25 (0, 0))) := ⟨laws_FnTable.z5⟩
             have n5_ : Aside0 (((w58.setCell ⟨gb618, 0, none⟩ (.int .i64 t613)).setCell ⟨gb618, 1, none⟩ (.slice Ao61 t614.length co61)).heap[gb618]? = some (.cells #[.int .i64 t613, .slice Ao61 t614.length co61] 25 (0, 0))) := ⟨laws_FnTable.z3⟩
             have n6_ : Aside0 (Below w.heap.size w ((w58.setCell ⟨gb618, 0, none⟩ (.int .i64 t613)).setCell ⟨gb618, 1, none⟩ (.slice Ao61 t614.length co61))) := ⟨laws_FnTable.z0⟩
             (try clear HO_4)
             (try clear HO_27)
             (try clear HO_582001)
             (try clear HO616)
             (try clear BK581)
             (try clear BK618)
             (try clear HB)
             generalize ((w58.setCell ⟨gb618, 0, none⟩ (.int .i64 t613)).setCell ⟨gb618, 1, none⟩ (.slice Ao61 t614.length co61)) = w86 at n0_ n1_ n2_ n3_ n4_ n5_ n6_ ⊢
             have HO_4 := n0_
             have HO_27 := n1_
             have HO_582001 := n2_
             have HO616 := n3_
             have BK581 := n4_
             have BK618 := n5_
             have HB := n6_
             clear n0_ n1_ n2_ n3_ n4_ n5_ n6_
             have n_ : _ ∧ _ ∧ _ ∧ _ ∧ _ ∧ _ ∧ _ := ⟨AsM (Kd.R_drew HO_4.out), AsM (Kd.R_drew HO_27.out), AsM (Kd.R_drew HO_582001.out), AsM (Kd.R_drew HO616.out), AsM (blk_drew BK581.out), AsM (blk_drew BK618.out), AsM (below_drew1 HB.out)⟩
             clear HO_4 HO_27 HO_582001 HO616 BK581 BK618 HB
             obtain ⟨HO_4, HO_27, HO_582001, HO616, BK581, BK618, HB⟩ := n_
             refine start_ (n := 19) (S := fun w' => w'.cell? ⟨gb581, 0, none⟩ = some (.int .i64 x582000_22) ∧ w'.cell? ⟨gb581, 1, none⟩ = some (.slice Ao56 x582001_22.length co56)) (ds := []) #[false, false, false, false, false, false, false, false, false, false, false, false, false, false, false, false, false, false, false] (by kernel_rfl) rfl rfl ⟨(blk_cell BK581.out 0).trans rfl, (blk_cell BK581.out 1).trans rfl⟩ (fun hHeld => ?_); refine with_tabW laws_FnTable.tab25 laws_FnTable.bits25 (fun HT_ HW_ => ?_)
             generalize w86.drew = w87 at HO_4 HO_27 HO_582001 HO616 BK581 BK618 HB hHeld ⊢
             refine PT (i := 0) (N := some 79) (tf 1 18) rfl rfl HT_ HW_ hHeld ?_
             refine one_ (i := 1) (N := some 80) (tf 2 17) rfl rfl (one_of HT_.out (by kernel_rfl)) (by decide) (fun K hK => ?_)
             refine goes_ Try.func7 (by kernel_rfl) rfl #[.agg #[.int .i64 x582000_22, .slice Ao56 x582001_22.length co56]] (by rfl) rfl rfl AQ ?_
             with_reducible refine (impl_TableOk.calls kj22 x582000_22 _ _ x582001_22 false _ ?side1 ?side2 A62.out).mono ?_
             (case side1 => exact SR HO_582001)
             (case side2 => exact (Kd.R_reads' HO_582001.out).2.1)
             rintro e w88 ⟨rfl, hb⟩
             refine ⟨_, rfl, ?_⟩
             have n_ : _ ∧ _ ∧ _ ∧ _ ∧ _ ∧ _ ∧ _ := ⟨AsM (Kd.R_below (RD HO_4) hb), AsM (Kd.R_below (RD HO_27) hb), AsM (Kd.R_below (RD HO_582001) hb), AsM (Kd.R_below (RD HO616) hb), AsM (blk_below (BD BK581) hb), AsM (blk_below (BD BK618) hb), AsM (below_step BG hb)⟩
             clear HO_4 HO_27 HO_582001 HO616 BK581 BK618 HB
             obtain ⟨HO_4, HO_27, HO_582001, HO616, BK581, BK618, HB⟩ := n_
             (try clear hb)
             (try clear hb2)
             (try clear hk)
             (try clear hi)
             refine hK.out _ _ ⟨(blk_cell BK581.out 0).trans rfl, (blk_cell BK581.out 1).trans rfl⟩ (fun hHeld => ?_)
             clear hK K
             refine NM (some 80) ?_
             refine PU (i := 2) (N := some 81) (tf 3 16) rfl rfl HT_ ?_
             refine PU (i := 3) (N := some 82) (tf 4 15) rfl rfl HT_ ?_
             refine PN (i := 4) (N := some 83) (tf 5 14) rfl rfl HT_ ?_
             refine PN (i := 5) (N := some 84) (tf 6 13) rfl rfl HT_ ?_
             refine PN (i := 6) (N := some 85) (tf 7 12) rfl rfl HT_ ?_
             refine PN (i := 7) (N := some 86) (tf 8 11) rfl rfl HT_ ?_
             refine PN (i := 8) (N := some 87) (tf 9 10) rfl rfl HT_ ?_
             refine PN (i := 9) (N := some 88) (tf 10 9) rfl rfl HT_ ?_
             refine PU (i := 10) (N := some 89) (tf 11 8) rfl rfl HT_ ?_
             refine PU (i := 11) (N := some 90) (tf 12 7) rfl rfl HT_ ?_
             refine PN (i := 12) (N := some 91) (tf 13 6) rfl rfl HT_ ?_
             refine PN (i := 13) (N := some 92) (tf 14 5) rfl rfl HT_ ?_
             refine PN (i := 14) (N := some 93) (tf 15 4) rfl rfl HT_ ?_
             refine PN (i := 15) (N := some 94) (tf 16 3) rfl rfl HT_ ?_
             refine PN (i := 16) (N := some 95) (tf 17 2) rfl rfl HT_ ?_
             refine PN (i := 17) (N := some 96) (tf 18 1) rfl rfl HT_ ?_
             refine PU (i := 18) (N := some 97) (tf 19 0) rfl rfl HT_ ?_
             refine done_ (done_of HT_.out (by kernel_rfl)) ?_
             try go_wp2
             go_meet
             case rel => exact ⟨_, (true), RS, H', ⟨laws_FnTable.z10⟩, ⟨RD HO_4⟩, ⟨RD HO_27⟩, ⟨RD HO_582001⟩, ⟨RD HO616⟩, ⟨BD BK581⟩, ⟨BD BK618⟩, ⟨laws_FnTable.z0⟩⟩
           case rest =>
            clear HC54
            try clear c1
            try clear p2
            try clear c6
            try clear c7
            try clear c15
            try clear c63
            try clear c67
            obtain ⟨kq, x97_53, rfl, HA, HJ53, HO_4, HO_27, HO_582001, HO_619001, BK581, BK618, HB⟩ := hcut
            cases kq with
            | zero => exact absurd HA.out (by simp [laws_FnTable.j2])
            | succ kj53 =>
             have H := HA.out
             clear HA
             simp only [laws_FnTable.j2] at H
             by_cases c89 : x97_53 = true
             ·subst c89
              replace H := IP H
              exact absurd H (by simp)
             ·replace c89 := Bool.eq_false_iff.mpr c89
              subst c89
              replace H := IN H
              by_cases c90 : (Int.tmod x29_1 4) = 3
              ·rw [if_pos c90] at H
               have c90b0 : ((Int.tmod x29_1 4) == 3) = true := beq_iff_eq.mpr c90
               have c90b1 : ((Int.tmod x29_1 4) != 3) = false := bne_eq_false_iff_eq.mpr c90
               clear c90
               have H' := Aside0.mk H
               clear H
               have hnb91 := NB618_581.out
               have hnc91 := NB581_618.out
               obtain ⟨hcz92_0, hcz92_1, hfz92_0, hfz92_1⟩ := bk2 BK618.out
               obtain ⟨hcz93_0, hcz93_1, hfz93_0, hfz93_1⟩ := bk2 BK581.out
               go_wp2
               go_roundg kj53
               case measure => have := HK1.out; have := HJ22.out; have := HJ53.out; omega
               case rel => exact ⟨(x4_22), (wrap64 (x29_1 + 1)), (t613), (t614), (.slice Ao61 t614.length co61), RS, H', ⟨by have := HK1.out; have := HJ22.out; have := HJ53.out; omega⟩, ⟨by refine PRx ?_; exact Kd.R_mono (FR (FR (Kd.R_types HO_4.out BK581.out (by decide)))) (fun _ hk => hk.1)⟩, ⟨by refine PRx ?_; exact Kd.R_mono (FR (FR (Kd.R_types HO_27.out BK581.out (by decide)))) (fun _ hk => hk.1)⟩, ⟨by refine PRx ?_; exact Kd.R_mono (FR (FR (Kd.R_types HO_619001.out BK581.out (by decide)))) (fun _ hk => trivial)⟩, ⟨by refine PX ?_; refine blk_put (cs := #[.int .i64 t613, .slice Ao56 x582001_22.length co56]) ?_ 1 _ rfl; refine PX ?_; refine blk_put (cs := #[.int .i64 x582000_22, .slice Ao56 x582001_22.length co56]) ?_ 0 _ rfl; exact BD BK581⟩, ⟨laws_FnTable.z0⟩⟩
              ·rw [if_neg c90] at H
               have c90b0 : ((Int.tmod x29_1 4) == 3) = false := beq_eq_false_iff_ne.mpr c90
               have c90b1 : ((Int.tmod x29_1 4) != 3) = true := bne_iff_ne.mpr c90
               have H' := Aside0.mk H
               clear H
               go_wp2
               go_roundg kj53
               case measure => have := HK1.out; have := HJ22.out; have := HJ53.out; omega
               case rel => exact ⟨(x4_22), (wrap64 (x29_1 + 1)), (x582000_22), (x582001_22), (.slice Ao56 x582001_22.length co56), RS, H', ⟨by have := HK1.out; have := HJ22.out; have := HJ53.out; omega⟩, ⟨RD HO_4⟩, ⟨RD HO_27⟩, ⟨by refine PRx ?_; exact Kd.R_mono HO_582001.out (fun _ hk => trivial)⟩, ⟨BD BK581⟩, ⟨laws_FnTable.z0⟩⟩
       ·rw [if_neg c19] at H
        exact absurd H (by simp)
      ·rw [if_neg c18] at H
       exact absurd H (by simp)
     ·rw [if_neg c17] at H
      have c17b0 : decide (x29_1 < (t586.length : Int)) = false := decide_eq_false c17
      clear c17
      have H' := Aside0.mk H
      clear H
      obtain ⟨Ao94, co94, eo94⟩ := Kd.R_slice HO_4.out
      subst eo94
      go_wp2
      go_loopg [105] k1 (fun kq v105 w' => ∃ (x105_2 : Int), v105 = .int .i64 x105_2 ∧ Aside0 (laws_FnTable.l1 kq x4_1 (x4_1.length : Int) x105_2 x582000_1 x582001_1 = some r) ∧ Aside0 (kq ≤ k1) ∧ Aside0 (Kd.R Kd.string 9 w' w.heap.size (fun _ => True) (.slice Ao94 x4_1.length co94) x4_1) ∧ Aside0 (Kd.R k49 49 w' w.heap.size (fun _ => True) u582001 x582001_1) ∧ Aside0 (w'.heap[gb581]? = some (.cells #[.int .i64 x582000_1, u582001] 25 (0, 0))) ∧ Aside0 (Below w.heap.size w w'))
      case atStart => exact ⟨(0), RS, H', ⟨Nat.le_refl _⟩, ⟨by refine PRx ?_; exact Kd.R_mono HO_4.out (fun _ hk => trivial)⟩, ⟨RD HO_582001⟩, ⟨BD BK581⟩, ⟨laws_FnTable.z4⟩⟩
      case round =>
       clear H'
       try clear c1
       try clear p2
       try clear c6
       try clear p6
       try clear c7
       try clear c8
       try clear c9
       try clear c15
       try clear c17
       try clear c17b0
       try clear c18
       try clear c19
       try clear c63
       try clear p64
       try clear c67
       try clear c89
       try clear c90
       try clear c90b0
       try clear c90b1
       try clear c91
       try clear hcz92_0
       try clear hcz92_1
       try clear hcz93_0
       try clear hcz93_1
       try clear hfz92_0
       try clear hfz92_1
       try clear hfz93_0
       try clear hfz93_1
       try clear p2
       obtain ⟨x105_2, rfl, HA, HK2, HO_103, HO_582001, BK581, HB⟩ := hrel
       cases gk with
       | zero => exact absurd HA.out (by simp [laws_FnTable.l1])
       | succ k2 =>
        have H := HA.out
        clear HA
        simp only [laws_FnTable.l1] at H
        by_cases c95 : x105_2 < (x4_1.length : Int)
        ·rw [if_pos c95] at H
         have c95b0 : decide (x105_2 < (x4_1.length : Int)) = true := decide_eq_true c95
         clear c95
         by_cases c96 : 0 ≤ x105_2
         ·rw [if_pos c96] at H
          have c96b0 : decide (0 ≤ x105_2) = true := decide_eq_true c96
          clear c96
          by_cases c97 : x105_2 < (x4_1.length : Int)
          ·rw [if_pos c97] at H
           have c97b0 : decide (x105_2 < (x4_1.length : Int)) = true := decide_eq_true c97
           clear c97
           replace H := BS H
           obtain ⟨t631, A980, H⟩ := H
           have A98 := Aside0.mk A980
           clear A980
           by_cases c99 : t631 = true
           ·subst c99
            replace H := IP H
            have H' := Aside0.mk H
            clear H
            have p630 : 0 ≤ (x105_2 : Int) := of_decide_eq_true AS
            have q630 : x105_2 < (x4_1.length : Int) := of_decide_eq_true AS
            obtain ⟨ad630, e630, hx630_0⟩ := Kd.at_string (Kd.R_reads' HO_103.out).2.2 x105_2 p630 q630
            cases e630
            replace p630 := eq_true p630
            replace q630 := eq_true q630
            obtain ⟨hcz100_0, hcz100_1, hfz100_0, hfz100_1⟩ := bk2 BK581.out
            obtain ⟨Ao101, co101, eo101⟩ := Kd.R_slice HO_582001.out
            subst eo101
            go_wp2_with (first | ((with_reducible refine gate_callee (f := 10) rfl ?_); refine goesL_ (some 111) rfl rfl Try.func10 (by kernel_rfl) rfl #[.agg #[.int .i64 x582000_1, .slice Ao101 x582001_1.length co101], .string (rdOf ByteArray.empty x4_1 x105_2)] rfl AQ ?_; (with_reducible refine (impl_Has.calls k2 x582000_1 _ _ x582001_1 (rdOf ByteArray.empty x4_1 x105_2) true _ ?side1 ?side2 A98.out).mono ?_); (case side1 => exact SR HO_582001); (case side2 => exact (Kd.R_reads' HO_582001.out).2.1); rintro e w102 ⟨rfl, hb⟩; refine ⟨_, rfl, ?_⟩; have n_ : _ ∧ _ ∧ _ ∧ _ := ⟨AsM (Kd.R_below (RD HO_103) hb), AsM (Kd.R_below (RD HO_582001) hb), AsM (blk_below (BD BK581) hb), AsM (below_step BG hb)⟩; clear HO_103 HO_582001 BK581 HB; obtain ⟨HO_103, HO_582001, BK581, HB⟩ := n_; (try clear hb); (try clear hb2); (try clear hk); (try clear hi)))
            go_roundg k2
            case measure => have := HK1.out; have := HK2.out; omega
            case rel => exact ⟨(wrap64 (x105_2 + 1)), RS, H', ⟨by have := HK1.out; have := HK2.out; omega⟩, ⟨RD HO_103⟩, ⟨RD HO_582001⟩, ⟨BD BK581⟩, ⟨laws_FnTable.z4⟩⟩
           ·replace c99 := Bool.eq_false_iff.mpr c99
            subst c99
            replace H := IN H
            exact absurd H (by simp)
          ·rw [if_neg c97] at H
           exact absurd H (by simp)
         ·rw [if_neg c96] at H
          exact absurd H (by simp)
        ·rw [if_neg c95] at H
         have c95b0 : decide (x105_2 < (x4_1.length : Int)) = false := decide_eq_false c95
         clear c95
         replace H := BS H
         obtain ⟨t632, A1030, H⟩ := H
         have A103 := Aside0.mk A1030
         clear A1030
         by_cases c104 : t632 = true
         ·subst c104
          replace H := IP H
          exact absurd H (by simp)
         ·replace c104 := Bool.eq_false_iff.mpr c104
          subst c104
          replace H := IN H
          replace H := BS H
          obtain ⟨t633, A1050, H⟩ := H
          have A105 := Aside0.mk A1050
          clear A1050
          obtain rfl := Option.some.inj H
          obtain ⟨hcz106_0, hcz106_1, hfz106_0, hfz106_1⟩ := bk2 BK581.out
          obtain ⟨Ao107, co107, eo107⟩ := Kd.R_slice HO_582001.out
          subst eo107
          go_wp2_with (first | ((with_reducible refine gate_callee (f := 10) rfl ?_); refine goesL_ (some 115) rfl rfl Try.func10 (by kernel_rfl) rfl #[.agg #[.int .i64 x582000_1, .slice Ao107 x582001_1.length co107], .string (⟨#[110, 101, 118, 101, 114]⟩ : ByteArray)] rfl AQ ?_; (with_reducible refine (impl_Has.calls k2 x582000_1 _ _ x582001_1 (⟨#[110, 101, 118, 101, 114]⟩ : ByteArray) false _ ?side1 ?side2 A103.out).mono ?_); (case side1 => exact SR HO_582001); (case side2 => exact (Kd.R_reads' HO_582001.out).2.1); rintro e w108 ⟨rfl, hb⟩; refine ⟨_, rfl, ?_⟩; have n_ : _ ∧ _ ∧ _ ∧ _ := ⟨AsM (Kd.R_below (RD HO_103) hb), AsM (Kd.R_below (RD HO_582001) hb), AsM (blk_below (BD BK581) hb), AsM (below_step BG hb)⟩; clear HO_103 HO_582001 BK581 HB; obtain ⟨HO_103, HO_582001, BK581, HB⟩ := n_; (try clear hb); (try clear hb2); (try clear hk); (try clear hi); obtain ⟨hcz109_0, hcz109_1, hfz109_0, hfz109_1⟩ := bk2 BK581.out) | (go_at_call 7; (with_reducible refine (impl_TableOk.calls k2 x582000_1 _ _ x582001_1 t633 _ ?side1 ?side2 A105.out).mono ?_); (case side1 => exact SR HO_582001); (case side2 => exact (Kd.R_reads' HO_582001.out).2.1); rintro e w110 ⟨rfl, hb⟩; have n_ : _ ∧ _ ∧ _ ∧ _ := ⟨AsM (Kd.R_below (RD HO_103) hb), AsM (Kd.R_below (RD HO_582001) hb), AsM (blk_below (BD BK581) hb), AsM (below_step BG hb)⟩; clear HO_103 HO_582001 BK581 HB; obtain ⟨HO_103, HO_582001, BK581, HB⟩ := n_; (try clear hb); (try clear hb2); (try clear hk); (try clear hi)))
          go_ret
          exact ⟨ER, BG⟩
  ·replace c6 := Bool.eq_false_iff.mpr c6
   subst c6
   replace H := IN H
   exact absurd H (by simp)
/-- THE ONE PURE STATEMENT of laws_FnTable: yours. -/
def laws_FnTable.Pure : Prop := ∀ (l0 : List Int), l0.length ≤ maxLen → l0.length * 1 ≤ 140737488351232 → (∀ x ∈ l0, (Lit.int .u8 x).wf = true) → ∃ k, laws_FnTable.f k l0 = some true
theorem laws_FnTable.walk (P : laws_FnTable.Pure) (a0 : Option Addr) (len0 cap0 : Nat) (z0 : List Int) (w : World) (w0 : (a0 = none ∧ len0 = 0 ∧ cap0 = 0 ∧ z0 = []) ∨ ∃ x, a0 = some x ∧ len0 ≤ cap0 ∧ cap0 ≤ maxLen ∧ z0.length = cap0 ∧ (∀ i, i < z0.length → w.cell? (x.add i) = some (.int .u8 (z0.getD i 0))) ∧ ∀ n ∈ z0, (Lit.int .u8 n).wf = true) (y0 : len0 * 1 ≤ 140737488351232) :
  Calls Try.prog 3 #[.slice a0 len0 cap0] w fun e w' => e = .returned (.bool true) ∧ Below w.heap.size w w' := by
 obtain ⟨l0, rfl, hr0, hm0, hw0, hc0⟩ := ReadsInt.ofRowC w0
 obtain ⟨k, h⟩ := P l0 hm0 y0 hw0
 refine (laws_FnTable.calls k _ _ l0 true w (Kd.C_of_reads (d := (0 : Int)) (h1 := fun _ => rfl) hr0) hc0 h).mono ?_
 rintro e w' ⟨rfl, hd⟩
 exact ⟨rfl, hd⟩
def impl_Open.f (k : Nat) (a0_0 : Int) (l0_1 : List (S49)) (a1 : Int) : Option (Int × (List (S49)) × Bool) := (impl_TableOk.f k a0_0 l0_1).bind fun t636 => (if t636 = true then ((impl_within.f a1 0 (wrap64 (a0_0 - 1))).bind fun t637 => (if t637 = true then ((impl_Table_opened.f k a0_0 l0_1 a1).bind fun bt638 => (some (bt638.1, bt638.2, true))) else (some (0, ([] : List (S49)), false)))) else (some (0, ([] : List (S49)), false)))
theorem impl_Open.mono : ∀ a0 a1 a2 k, LeO (impl_Open.f k a0 a1 a2) (impl_Open.f (k + 1) a0 a1 a2) := by
 intro a0 a1 a2 k
 unfold impl_Open.f
 repeat' first | (with_reducible first | exact impl_TableOk.mono _ _ _ | exact impl_Table_opened.mono _ _ _ _ | exact LeO.refl _ | exact LeO.none _ | refine LeO.ite ?_ ?_ | refine LeO.bind ?_ (fun _ => ?_)) | exact impl_TableOk.mono _ _ _ | exact impl_Table_opened.mono _ _ _ _ | exact LeO.none _ | refine LeO.ite ?_ ?_ | refine LeO.bind ?_ (fun _ => ?_)
set_option maxHeartbeats 8000000 in
set_option maxRecDepth 100000 in
theorem impl_Open.calls (k : Nat) (a0_0 : Int) (A0_1 : Option Addr) (c0_1 : Nat) (l0_1 : List (S49)) (a1 : Int) (r1 : Int) (r2 : List (S49)) (r3 : Bool) (w : World) (hr0_1 : Kd.C k49 w A0_1 l0_1.length l0_1) (hc0_1 : l0_1.length ≤ c0_1) (h : impl_Open.f k a0_0 l0_1 a1 = some (r1, r2, r3)) :
  Calls Try.prog 16 #[.agg #[.int .i64 a0_0, .slice A0_1 l0_1.length c0_1], .int .i64 a1] w fun e w' => ∃ v1_ : Value, e = .returned (.tuple #[.agg #[.int .i64 r1, v1_], .bool r3]) ∧ Kd.R k49 49 w' w.heap.size (fun _ => True) v1_ r2 ∧ Below w.heap.size w w' := by
 have hu25 := Try.underlying25
 have HR0_1 := Aside0.mk hr0_1
 have HC0_1 := Aside0.mk hc0_1
 clear hr0_1 hc0_1
 have HB := Aside0.mk (Below.refl w.heap.size w)
 have H : ((impl_TableOk.f k a0_0 l0_1).bind fun t636 => (if t636 = true then ((impl_within.f a1 0 (wrap64 (a0_0 - 1))).bind fun t637 => (if t637 = true then ((impl_Table_opened.f k a0_0 l0_1 a1).bind fun bt638 => (some (bt638.1, bt638.2, true))) else (some (0, ([] : List (S49)), false)))) else (some (0, ([] : List (S49)), false)))) = some (r1, r2, r3) := h
 clear h
 replace H := BS H
 obtain ⟨t636, A30, H⟩ := H
 have A3 := Aside0.mk A30
 clear A30
 by_cases c4 : t636 = true
 ·subst c4
  replace H := IP H
  replace H := BS H
  obtain ⟨t637, A50, H⟩ := H
  have A5 := Aside0.mk A50
  clear A50
  by_cases c6 : t637 = true
  ·subst c6
   replace H := IP H
   replace H := BS H
   obtain ⟨⟨t638, t639⟩, A70, H⟩ := H
   have A7 := Aside0.mk A70
   clear A70
   simp only [Option.some.injEq, Prod.mk.injEq] at H
   obtain ⟨rfl, rfl, rfl⟩ := H
   go_enter Try.func16, Try.ntmps16
   go_wp2_with (first | ((with_reducible refine gate_dst (N := 2) rfl ?_); refine box_event ?hg (N := 2) ?hd (cs := #[.int .i64 a0_0, .slice A0_1 l0_1.length c0_1]) (t := 25) ?hr ?_; (case hd => rfl); (case hg => rfl); (case hr => first | (go_simp; done) | (go_simp; rfl)); intro gb634 hg w8 hbox hb; have n_ : _ ∧ _ ∧ _ ∧ _ := ⟨AsM (below_step BL hb), AsM (hbox), AsM ((GL : w.heap.size ≤ gb634)), AsM ((GL : w.heap.size ≤ gb634))⟩; clear HB; obtain ⟨HB, BK634, GW634, GE634⟩ := n_; clear hb hbox hg) | ((with_reducible refine gate_dst (N := 4) rfl ?_); refine box_event ?hg (N := 4) ?hd (cs := #[.int .i64 0, .slice none 0 0]) (t := 25) ?hr ?_; (case hd => rfl); (case hg => rfl); (case hr => first | (go_simp; done) | (go_simp; rfl)); intro gb635 hg w9 hbox hb; have n_ : _ ∧ _ ∧ _ ∧ _ ∧ _ ∧ _ ∧ _ := ⟨AsM (blk_below (BD BK634) hb), AsM (below_step BG hb), AsM (hbox), AsM ((GM : w.heap.size ≤ gb635)), AsM ((GM : w.heap.size ≤ gb635)), AsM ((by rw [hg]; exact Nat.ne_of_lt (blk_lt (BD BK634)) : gb634 ≠ gb635)), AsM ((by rw [hg]; exact Nat.ne_of_gt (blk_lt (BD BK634)) : gb635 ≠ gb634))⟩; clear BK634 HB; obtain ⟨BK634, HB, BK635, GW635, GE635, NB634_635, NB635_634⟩ := n_; clear hb hbox hg; have hnb10 := NB634_635.out; have hnc10 := NB635_634.out; obtain ⟨hcz11_0, hcz11_1, hfz11_0, hfz11_1⟩ := bk2 BK634.out) | ((with_reducible refine gate_callee (f := 7) rfl ?_); refine goesL_ (some 7) rfl rfl Try.func7 (by kernel_rfl) rfl #[.agg #[.int .i64 a0_0, .slice A0_1 l0_1.length c0_1]] rfl AQ ?_; (with_reducible refine (impl_TableOk.calls k a0_0 _ _ l0_1 true _ ?side1 ?side2 A3.out).mono ?_); (case side1 => exact SC HR0_1); (case side2 => exact HC0_1.out); rintro e w12 ⟨rfl, hb⟩; refine ⟨_, rfl, ?_⟩; have n_ : _ ∧ _ ∧ _ := ⟨AsM (blk_below (BD BK634) hb), AsM (blk_below (BD BK635) hb), AsM (below_step BG hb)⟩; clear BK634 BK635 HB; obtain ⟨BK634, BK635, HB⟩ := n_; (try clear hb); (try clear hb2); (try clear hk); (try clear hi); obtain ⟨hcz13_0, hcz13_1, hfz13_0, hfz13_1⟩ := bk2 BK634.out) | (go_at_call 23; (with_reducible refine (impl_within.calls a1 0 (wrap64 (a0_0 - 1)) true _ A5.out).mono ?_); rintro e w' ⟨rfl, ⟨nd, rfl⟩⟩; (try (rw [drewN_self w12]; generalize hq_ : World.drewN w12 _ = w12; have n0_ : Aside0 (w12.heap[gb634]? = some (.cells #[.int .i64 a0_0, .slice A0_1 l0_1.length c0_1] 25 (0, 0))) := ⟨by rw [← hq_]; exact (BD BK634)⟩; have n1_ : Aside0 (w12.heap[gb635]? = some (.cells #[.int .i64 0, .slice none 0 0] 25 (0, 0))) := ⟨by rw [← hq_]; exact (BD BK635)⟩; have n2_ : Aside0 (Below w.heap.size w w12) := ⟨by rw [← hq_]; exact BG⟩; clear BK634 BK635 HB hq_; have BK634 := n0_; have BK635 := n1_; have HB := n2_; clear n0_ n1_ n2_)); obtain ⟨hcz13_0, hcz13_1, hfz13_0, hfz13_1⟩ := bk2 BK634.out) | ((with_reducible refine gate_callee (f := 36) rfl ?_); refine goesL_ (some 20) rfl rfl Try.func36 (by kernel_rfl) rfl #[.agg #[.int .i64 a0_0, .slice A0_1 l0_1.length c0_1], .int .i64 a1] rfl AQ ?_; (with_reducible refine (impl_Table_opened.calls k a0_0 _ _ l0_1 a1 t638 t639 _ ?side1 ?side2 A7.out).mono ?_); (case side1 => exact SC HR0_1); (case side2 => exact HC0_1.out); rintro e w14 ⟨v640, rfl, ho0, hb⟩; refine ⟨_, rfl, ?_⟩; have n_ : _ ∧ _ ∧ _ ∧ _ := ⟨AsM (Kd.R_lower ho0 (below_size BG)), AsM (blk_below (BD BK634) hb), AsM (blk_below (BD BK635) hb), AsM (below_step BG hb)⟩; clear BK634 BK635 HB; obtain ⟨HO641, BK634, BK635, HB⟩ := n_; (try clear hb); (try clear hb2); (try clear hk); (try clear hi); (try clear ho0); obtain ⟨hcz15_0, hcz15_1, hfz15_0, hfz15_1⟩ := bk2 BK635.out; obtain ⟨Ao16, co16, eo16⟩ := Kd.R_slice HO641.out; subst eo16))
   refine bodyPost_ret (results_ct rfl _ _ gb635 25 #[.int .i64 t638, .slice Ao16 t639.length co16] (0, 0) _ rfl (by refine PX ?_; refine blk_put (cs := #[.int .i64 t638, .slice none 0 0]) ?_ 1 _ rfl; refine PX ?_; refine blk_put (cs := #[.int .i64 0, .slice none 0 0]) ?_ 0 _ rfl; exact BD BK635) Try.underlying25 rfl (by kernel_rfl)) rfl ?_
   exact ⟨_, ER, by refine PRx ?_; exact Kd.R_mono (FR (FR (Kd.R_types HO641.out BK635.out (by decide)))) (fun _ hk => trivial), BG⟩
  ·replace c6 := Bool.eq_false_iff.mpr c6
   subst c6
   replace H := IN H
   simp only [Option.some.injEq, Prod.mk.injEq] at H
   obtain ⟨rfl, rfl, rfl⟩ := H
   go_enter Try.func16, Try.ntmps16
   go_wp2_with (first | ((with_reducible refine gate_dst (N := 2) rfl ?_); refine box_event ?hg (N := 2) ?hd (cs := #[.int .i64 a0_0, .slice A0_1 l0_1.length c0_1]) (t := 25) ?hr ?_; (case hd => rfl); (case hg => rfl); (case hr => first | (go_simp; done) | (go_simp; rfl)); intro gb634 hg w17 hbox hb; have n_ : _ ∧ _ ∧ _ ∧ _ := ⟨AsM (below_step BL hb), AsM (hbox), AsM ((GL : w.heap.size ≤ gb634)), AsM ((GL : w.heap.size ≤ gb634))⟩; clear HB; obtain ⟨HB, BK634, GW634, GE634⟩ := n_; clear hb hbox hg) | ((with_reducible refine gate_dst (N := 4) rfl ?_); refine box_event ?hg (N := 4) ?hd (cs := #[.int .i64 0, .slice none 0 0]) (t := 25) ?hr ?_; (case hd => rfl); (case hg => rfl); (case hr => first | (go_simp; done) | (go_simp; rfl)); intro gb635 hg w18 hbox hb; have n_ : _ ∧ _ ∧ _ ∧ _ ∧ _ ∧ _ ∧ _ := ⟨AsM (blk_below (BD BK634) hb), AsM (below_step BG hb), AsM (hbox), AsM ((GM : w.heap.size ≤ gb635)), AsM ((GM : w.heap.size ≤ gb635)), AsM ((by rw [hg]; exact Nat.ne_of_lt (blk_lt (BD BK634)) : gb634 ≠ gb635)), AsM ((by rw [hg]; exact Nat.ne_of_gt (blk_lt (BD BK634)) : gb635 ≠ gb634))⟩; clear BK634 HB; obtain ⟨BK634, HB, BK635, GW635, GE635, NB634_635, NB635_634⟩ := n_; clear hb hbox hg; have hnb19 := NB634_635.out; have hnc19 := NB635_634.out; obtain ⟨hcz20_0, hcz20_1, hfz20_0, hfz20_1⟩ := bk2 BK634.out) | ((with_reducible refine gate_callee (f := 7) rfl ?_); refine goesL_ (some 7) rfl rfl Try.func7 (by kernel_rfl) rfl #[.agg #[.int .i64 a0_0, .slice A0_1 l0_1.length c0_1]] rfl AQ ?_; (with_reducible refine (impl_TableOk.calls k a0_0 _ _ l0_1 true _ ?side1 ?side2 A3.out).mono ?_); (case side1 => exact SC HR0_1); (case side2 => exact HC0_1.out); rintro e w21 ⟨rfl, hb⟩; refine ⟨_, rfl, ?_⟩; have n_ : _ ∧ _ ∧ _ := ⟨AsM (blk_below (BD BK634) hb), AsM (blk_below (BD BK635) hb), AsM (below_step BG hb)⟩; clear BK634 BK635 HB; obtain ⟨BK634, BK635, HB⟩ := n_; (try clear hb); (try clear hb2); (try clear hk); (try clear hi); obtain ⟨hcz22_0, hcz22_1, hfz22_0, hfz22_1⟩ := bk2 BK634.out) | (go_at_call 23; (with_reducible refine (impl_within.calls a1 0 (wrap64 (a0_0 - 1)) false _ A5.out).mono ?_); rintro e w' ⟨rfl, ⟨nd, rfl⟩⟩; (try (rw [drewN_self w21]; generalize hq_ : World.drewN w21 _ = w21; have n0_ : Aside0 (w21.heap[gb634]? = some (.cells #[.int .i64 a0_0, .slice A0_1 l0_1.length c0_1] 25 (0, 0))) := ⟨by rw [← hq_]; exact (BD BK634)⟩; have n1_ : Aside0 (w21.heap[gb635]? = some (.cells #[.int .i64 0, .slice none 0 0] 25 (0, 0))) := ⟨by rw [← hq_]; exact (BD BK635)⟩; have n2_ : Aside0 (Below w.heap.size w w21) := ⟨by rw [← hq_]; exact BG⟩; clear BK634 BK635 HB hq_; have BK634 := n0_; have BK635 := n1_; have HB := n2_; clear n0_ n1_ n2_)); obtain ⟨hcz22_0, hcz22_1, hfz22_0, hfz22_1⟩ := bk2 BK634.out; obtain ⟨hcz23_0, hcz23_1, hfz23_0, hfz23_1⟩ := bk2 BK635.out))
   refine bodyPost_ret (results_ct rfl _ _ gb635 25 #[.int .i64 0, .slice none 0 0] (0, 0) _ rfl (by refine PX ?_; refine blk_put (cs := #[.int .i64 0, .slice none 0 0]) ?_ 1 _ rfl; refine PX ?_; refine blk_put (cs := #[.int .i64 0, .slice none 0 0]) ?_ 0 _ rfl; exact BD BK635) Try.underlying25 rfl (by kernel_rfl)) rfl ?_
   exact ⟨_, ER, by first | exact Kd.R_nil _ _ _ _ _ | exact Kd.N_nil _ _ _ _ _ | exact Kd.V_nil _ _ _ _ _ | exact Kd.Q_nil _ _ _ _ _ | exact Kd.S_nil _ _ _ _ _, BG⟩
 ·replace c4 := Bool.eq_false_iff.mpr c4
  subst c4
  replace H := IN H
  simp only [Option.some.injEq, Prod.mk.injEq] at H
  obtain ⟨rfl, rfl, rfl⟩ := H
  go_enter Try.func16, Try.ntmps16
  go_wp2_with (first | ((with_reducible refine gate_dst (N := 2) rfl ?_); refine box_event ?hg (N := 2) ?hd (cs := #[.int .i64 a0_0, .slice A0_1 l0_1.length c0_1]) (t := 25) ?hr ?_; (case hd => rfl); (case hg => rfl); (case hr => first | (go_simp; done) | (go_simp; rfl)); intro gb634 hg w24 hbox hb; have n_ : _ ∧ _ ∧ _ ∧ _ := ⟨AsM (below_step BL hb), AsM (hbox), AsM ((GL : w.heap.size ≤ gb634)), AsM ((GL : w.heap.size ≤ gb634))⟩; clear HB; obtain ⟨HB, BK634, GW634, GE634⟩ := n_; clear hb hbox hg) | ((with_reducible refine gate_dst (N := 4) rfl ?_); refine box_event ?hg (N := 4) ?hd (cs := #[.int .i64 0, .slice none 0 0]) (t := 25) ?hr ?_; (case hd => rfl); (case hg => rfl); (case hr => first | (go_simp; done) | (go_simp; rfl)); intro gb635 hg w25 hbox hb; have n_ : _ ∧ _ ∧ _ ∧ _ ∧ _ ∧ _ ∧ _ := ⟨AsM (blk_below (BD BK634) hb), AsM (below_step BG hb), AsM (hbox), AsM ((GM : w.heap.size ≤ gb635)), AsM ((GM : w.heap.size ≤ gb635)), AsM ((by rw [hg]; exact Nat.ne_of_lt (blk_lt (BD BK634)) : gb634 ≠ gb635)), AsM ((by rw [hg]; exact Nat.ne_of_gt (blk_lt (BD BK634)) : gb635 ≠ gb634))⟩; clear BK634 HB; obtain ⟨BK634, HB, BK635, GW635, GE635, NB634_635, NB635_634⟩ := n_; clear hb hbox hg; have hnb26 := NB634_635.out; have hnc26 := NB635_634.out; obtain ⟨hcz27_0, hcz27_1, hfz27_0, hfz27_1⟩ := bk2 BK634.out) | ((with_reducible refine gate_callee (f := 7) rfl ?_); refine goesL_ (some 7) rfl rfl Try.func7 (by kernel_rfl) rfl #[.agg #[.int .i64 a0_0, .slice A0_1 l0_1.length c0_1]] rfl AQ ?_; (with_reducible refine (impl_TableOk.calls k a0_0 _ _ l0_1 false _ ?side1 ?side2 A3.out).mono ?_); (case side1 => exact SC HR0_1); (case side2 => exact HC0_1.out); rintro e w28 ⟨rfl, hb⟩; refine ⟨_, rfl, ?_⟩; have n_ : _ ∧ _ ∧ _ := ⟨AsM (blk_below (BD BK634) hb), AsM (blk_below (BD BK635) hb), AsM (below_step BG hb)⟩; clear BK634 BK635 HB; obtain ⟨BK634, BK635, HB⟩ := n_; (try clear hb); (try clear hb2); (try clear hk); (try clear hi); obtain ⟨hcz29_0, hcz29_1, hfz29_0, hfz29_1⟩ := bk2 BK635.out))
  refine bodyPost_ret (results_ct rfl _ _ gb635 25 #[.int .i64 0, .slice none 0 0] (0, 0) _ rfl (by refine PX ?_; refine blk_put (cs := #[.int .i64 0, .slice none 0 0]) ?_ 1 _ rfl; refine PX ?_; refine blk_put (cs := #[.int .i64 0, .slice none 0 0]) ?_ 0 _ rfl; exact BD BK635) Try.underlying25 rfl (by kernel_rfl)) rfl ?_
  exact ⟨_, ER, by first | exact Kd.R_nil _ _ _ _ _ | exact Kd.N_nil _ _ _ _ _ | exact Kd.V_nil _ _ _ _ _ | exact Kd.Q_nil _ _ _ _ _ | exact Kd.S_nil _ _ _ _ _, BG⟩
end Go.Proofs.Ytbjlldjkkdiblaa.G
