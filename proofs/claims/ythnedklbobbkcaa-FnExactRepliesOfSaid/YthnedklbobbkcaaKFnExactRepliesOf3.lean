/- Part 3 of the claim FnExactRepliesOf, merged by pack.py (this session's program) out of: the print's words, cut to what is needed; texts that gen.py printed (it runs the kit's print in place); texts of this session. -/
import Derived.Test.YthnedklbobbkcaaKFnExactRepliesOf1
import Derived.Test.YthnedklbobbkcaaKFnExactRepliesOf2
namespace Go.Proofs.Ythnedklbobbkcaa.Mm
end Go.Proofs.Ythnedklbobbkcaa.Mm
namespace Go.Proofs.Ythnedklbobbkcaa.Sh
end Go.Proofs.Ythnedklbobbkcaa.Sh
set_option maxHeartbeats 8000000
set_option maxRecDepth 100000
namespace Go.Proofs.Ythnedklbobbkcaa.G
open Go.RowKit Go.Proofs.YthnedklbobbkcaaW.PrintWords Go.Proofs.YthnedklbobbkcaaW.PrintLast Go.Proofs.YthnedklbobbkcaaW.PrintMore Go.Proofs.Ythnedklbobbkcaa.Sh
attribute [local go_sem] max2_int min2_int max_two min_two max_three min_three max_four min_four
set_option linter.unusedVariables false
set_option linter.unusedSimpArgs false
open Go.Proofs.Ythnedklbobbkcaa.Mm
def laws_eqSpotS.l0 : Nat → List (S188) → List (S188) → Int → Option (Bool)
 | 0, _, _, _ => none
 | k + 1, x0, x1, x5 => if x5 < (x0.length : Int) then (if 0 ≤ x5 then (if x5 < (x1.length : Int) then ((laws_eqSpot.f ((rd_T188 x0 x5).f0) ((rd_T188 x0 x5).f1) ((rd_T188 x1 x5).f0) ((rd_T188 x1 x5).f1)).bind fun t1595 => (if t1595 = true then (laws_eqSpotS.l0 k x0 x1 (wrap64 (x5 + 1))) else (none))) else (none)) else (none)) else (some true)
def laws_eqSpotS.f (k : Nat) (l0 : List (S188)) (l1 : List (S188)) : Option (Bool) := if (l0.length : Int) = (l1.length : Int) then (laws_eqSpotS.l0 k l0 l1 0) else (none)
def laws_eqSpotS.T6 : Bool × List (List Nat × List Nat) := (true, [([], []), ([], []), ([0, 1], [0, 1]), ([2], [2]), ([], []), ([], []), ([4, 5], [4, 5]), ([6], [6]), ([3, 7], [3, 7]), ([8], [8])])
def laws_eqSpotS.B6 : List Nat := [0, 0, 3, 7, 0, 0, 48, 112, 255, 511]
theorem laws_eqSpotS.tab6 : rtab .any (opsOf Try.f86 6) = laws_eqSpotS.T6 := by kernel_rfl
theorem laws_eqSpotS.bits6 : waitsOk laws_eqSpotS.T6.2 laws_eqSpotS.B6 = true := by kernel_rfl
theorem laws_eqSpotS.calls (k : Nat) (A0 : Option Addr) (c0 : Nat) (l0 : List (S188)) (A1 : Option Addr) (c1 : Nat) (l1 : List (S188)) (r : Bool) (w : World) (hr0 : Kd.C k188 w A0 l0.length l0) (hc0 : l0.length ≤ c0) (hr1 : Kd.C k188 w A1 l1.length l1) (hc1 : l1.length ≤ c1) (h : laws_eqSpotS.f k l0 l1 = some r) :
  Calls Try.prog 86 #[.slice A0 l0.length c0, .slice A1 l1.length c1] w fun e w' => e = .returned (.bool r) ∧ Mem w [] w' [] := by
 have hu188 := Try.underlying188
 have HR0 := Aside0.mk hr0
 have HC0 := Aside0.mk hc0
 clear hr0 hc0
 have HR1 := Aside0.mk hr1
 have HC1 := Aside0.mk hc1
 clear hr1 hc1
 have HM := Mem.nil w
 have H := h
 clear h
 unfold laws_eqSpotS.f at H
 go_enter Try.func86, Try.ntmps86
 replace H := GD H; obtain ⟨c3, H⟩ := H
 obtain ⟨c3b0, c3b1⟩ := BE c3
 have c3b2 : (l0.length == l1.length) = true := by first | simpa using c3 | (simp at c3 ⊢; omega)
 clear c3
 have H' := Aside0.mk H
 clear H
 go_wp2
 go_loopg [5] k (fun kq v5 w' => ∃ (x5_1 : Int), v5 = .int .i64 x5_1 ∧ Aside0 (laws_eqSpotS.l0 kq l0 l1 x5_1 = some r) ∧ Aside0 (kq ≤ k) ∧ Mem w [] w' [])
 case atStart => exact ⟨(0), RS, H', ⟨Nat.le_refl _⟩, (MD HM).pick []⟩
 case round =>
  clear H' HM
  obtain ⟨x5_1, rfl, HA, HK1, HM⟩ := hrel
  cases gk with
  | zero => exact absurd HA.out (by simp [laws_eqSpotS.l0])
  | succ k1 =>
   have H := HA.out
   clear HA
   simp only [laws_eqSpotS.l0] at H
   go_upto_if 14 with (fail)
   replace H := IT H; rcases H with ⟨c4, H⟩ | ⟨c4, H⟩
   ·have c4b0 := decide_eq_true c4
    clear c4
    first|rw [c4b0]|(simp only [i64_w, i32_w]; rw [c4b0])|skip
    try go_wp2
    replace H := GD H; obtain ⟨c5, H⟩ := H
    have c5b0 := decide_eq_true c5
    clear c5
    replace H := GD H; obtain ⟨c6, H⟩ := H
    have c6b0 := decide_eq_true c6
    clear c6
    replace H := BN H; obtain ⟨t1595, A7, H⟩ := H
    have p1593 : 0 ≤ (x5_1 : Int) := of_decide_eq_true AS
    have q1593 : (x5_1 : Int) < (l0.length : Int) := of_decide_eq_true AS
    obtain ⟨ad1593, e1593, hx1593_0, hx1593_1⟩ := at_T188 (HM.came HR0.out) x5_1 p1593 q1593
    cases e1593
    replace p1593 := eq_true p1593
    replace q1593 := eq_true q1593
    have p1594 : 0 ≤ (x5_1 : Int) := of_decide_eq_true AS
    have q1594 : (x5_1 : Int) < (l1.length : Int) := of_decide_eq_true AS
    obtain ⟨ad1594, e1594, hx1594_0, hx1594_1⟩ := at_T188 (HM.came HR1.out) x5_1 p1594 q1594
    cases e1594
    replace p1594 := eq_true p1594
    replace q1594 := eq_true q1594
    refine RGN 10 [0, 1, 2, 3, 4, 5, 6, 7, 8, 9] (fun a0 b a w' => a = putSel a0 b [(0, 17, .slice (some ad1593) l0.length c0), (1, 18, .int .i64 x5_1), (2, 19, .pointer (some (ad1593.add ((x5_1).toNat * 2)))), (3, 20, .agg #[.string ((rd_T188 l0 x5_1).f0), .int .i64 ((rd_T188 l0 x5_1).f1)]), (4, 21, .slice (some ad1594) l1.length c1), (5, 22, .int .i64 x5_1), (6, 23, .pointer (some (ad1594.add ((x5_1).toNat * 2)))), (7, 24, .agg #[.string ((rd_T188 l1 x5_1).f0), .int .i64 ((rd_T188 l1 x5_1).f1)]), (8, 25, .bool t1595), (9, 26, .bool (!t1595))] ∧ Mem w [] w' []) laws_eqSpotS.tab6 laws_eqSpotS.bits6 ?_ ?_ ?_
    ·exact ⟨PS0' rfl _, (HM.drew).pick []⟩
    ·clear HM
     refine SY ?_ ?_
     ·intro b a w ha HM hb hon hoff K hK
      have e0 := PG ha 0
      exact VL (.slice (some ad1593) l0.length c0) (hK.out _ _ ⟨PUT ha 0 hb, HM⟩)
     refine SY ?_ ?_
     ·intro b a w ha HM hb hon hoff K hK
      have e5 := PG ha 5
      exact VL (.int .i64 x5_1) (hK.out _ _ ⟨PUT ha 1 hb, HM⟩)
     refine SY ?_ ?_
     ·intro b a w ha HM hb hon hoff K hK
      have p1593 : 0 ≤ (x5_1 : Int) := of_decide_eq_true AS
      have q1593 : (x5_1 : Int) < (l0.length : Int) := of_decide_eq_true AS
      obtain ⟨ad1593, e1593, hx1593_0, hx1593_1⟩ := at_T188 (HM.came HR0.out) x5_1 p1593 q1593
      obtain rfl := Option.some.inj e1593
      replace p1593 := eq_true p1593
      replace q1593 := eq_true q1593
      have e17 := PE ha 0 hon
      have e18 := PE ha 1 hon
      exact VL (.pointer (some (ad1593.add ((x5_1).toNat * 2)))) (hK.out _ _ ⟨PUT ha 2 hb, HM⟩)
     refine SY ?_ ?_
     ·intro b a w ha HM hb hon hoff K hK
      have p1593 : 0 ≤ (x5_1 : Int) := of_decide_eq_true AS
      have q1593 : (x5_1 : Int) < (l0.length : Int) := of_decide_eq_true AS
      obtain ⟨ad1593, e1593, hx1593_0, hx1593_1⟩ := at_T188 (HM.came HR0.out) x5_1 p1593 q1593
      obtain rfl := Option.some.inj e1593
      replace p1593 := eq_true p1593
      replace q1593 := eq_true q1593
      have e19 := PE ha 2 hon
      exact VL (.agg #[.string ((rd_T188 l0 x5_1).f0), .int .i64 ((rd_T188 l0 x5_1).f1)]) (hK.out _ _ ⟨PUT ha 3 hb, HM⟩)
     refine SY ?_ ?_
     ·intro b a w ha HM hb hon hoff K hK
      have e1 := PG ha 1
      exact VL (.slice (some ad1594) l1.length c1) (hK.out _ _ ⟨PUT ha 4 hb, HM⟩)
     refine SY ?_ ?_
     ·intro b a w ha HM hb hon hoff K hK
      have e5 := PG ha 5
      exact VL (.int .i64 x5_1) (hK.out _ _ ⟨PUT ha 5 hb, HM⟩)
     refine SY ?_ ?_
     ·intro b a w ha HM hb hon hoff K hK
      have p1594 : 0 ≤ (x5_1 : Int) := of_decide_eq_true AS
      have q1594 : (x5_1 : Int) < (l1.length : Int) := of_decide_eq_true AS
      obtain ⟨ad1594, e1594, hx1594_0, hx1594_1⟩ := at_T188 (HM.came HR1.out) x5_1 p1594 q1594
      obtain rfl := Option.some.inj e1594
      replace p1594 := eq_true p1594
      replace q1594 := eq_true q1594
      have e21 := PE ha 4 hon
      have e22 := PE ha 5 hon
      exact VL (.pointer (some (ad1594.add ((x5_1).toNat * 2)))) (hK.out _ _ ⟨PUT ha 6 hb, HM⟩)
     refine SY ?_ ?_
     ·intro b a w ha HM hb hon hoff K hK
      have p1594 : 0 ≤ (x5_1 : Int) := of_decide_eq_true AS
      have q1594 : (x5_1 : Int) < (l1.length : Int) := of_decide_eq_true AS
      obtain ⟨ad1594, e1594, hx1594_0, hx1594_1⟩ := at_T188 (HM.came HR1.out) x5_1 p1594 q1594
      obtain rfl := Option.some.inj e1594
      replace p1594 := eq_true p1594
      replace q1594 := eq_true q1594
      have e23 := PE ha 6 hon
      exact VL (.agg #[.string ((rd_T188 l1 x5_1).f0), .int .i64 ((rd_T188 l1 x5_1).f1)]) (hK.out _ _ ⟨PUT ha 7 hb, HM⟩)
     refine SY ?_ ?_
     ·intro b a w ha HM hb hon hoff K hK
      have e20 := PE ha 3 hon
      have e24 := PE ha 7 hon
      refine ST (eC (some 25) rfl #[.agg #[.string ((rd_T188 l0 x5_1).f0), .int .i64 ((rd_T188 l0 x5_1).f1)], .agg #[.string ((rd_T188 l1 x5_1).f0), .int .i64 ((rd_T188 l1 x5_1).f1)]] rfl Try.func141 (laws_eqSpot.calls ((rd_T188 l0 x5_1).f0) ((rd_T188 l0 x5_1).f1) ((rd_T188 l1 x5_1).f0) ((rd_T188 l1 x5_1).f1) t1595 _ A7.out) ?_ (hargs := by (simp only [List.map_toArray, List.map_cons, List.map_nil, evc, eval_of e20, eval_of e24]) <;> rfl))
      rintro e w9 ⟨rfl, hR⟩
      refine ⟨_, rfl, ?_⟩
      replace HM := HM.call hR
      clear hR
      exact hK.out _ _ ⟨PUT ha 8 hb, (HM).pick []⟩
     refine SY ?_ ?_
     ·intro b a w ha HM hb hon hoff K hK
      have e25 := PE ha 8 hon
      exact VL (.bool (!t1595)) (hK.out _ _ ⟨PUT ha 9 hb, HM⟩)
     exact steps_nil
    rintro _ w10 ⟨rfl, HM⟩
    simp only [putSel, if_true, Act.put, List.setIfInBounds_toArray, List.set_cons_zero, List.set_cons_succ, gt_iff_lt, ge_iff_le]
    replace H := GD H
    obtain ⟨c11, H⟩ := H
    subst c11
    have H' := Aside0.mk H
    clear H
    go_wp2
    go_roundg k1
    case measure => have := HK1.out; omega
    case rel => exact ⟨(wrap64 (x5_1 + 1)), RS, H', ⟨by have := HK1.out; omega⟩, (MD HM).pick []⟩
   ·have c4b0 := decide_eq_false c4
    clear c4
    first|rw [c4b0]|(simp only [i64_w, i32_w]; rw [c4b0])|skip
    obtain rfl := Option.some.inj H
    go_wp2
    go_ret
    exact ⟨ER, (MD HM).pick []⟩
def laws_eqDeed.f (a0_0 : Int) (a0_1 : Int) (a1_0 : Int) (a1_1 : Int) : Option (Bool) := if a0_0 = a1_0 then (if a0_1 = a1_1 then (some true) else (none)) else (none)
theorem laws_eqDeed.calls (a0_0 : Int) (a0_1 : Int) (a1_0 : Int) (a1_1 : Int) (r : Bool) (w : World)  (h : laws_eqDeed.f a0_0 a0_1 a1_0 a1_1 = some r) :
  Calls Try.prog 142 #[.agg #[.int .i64 a0_0, .int .i64 a0_1], .agg #[.int .i64 a1_0, .int .i64 a1_1]] w fun e w' => e = .returned (.bool r) ∧ Mem w [] w' [] := by
 have hu191 := Try.underlying191
 have HM := Mem.nil w
 have H := h
 clear h
 unfold laws_eqDeed.f at H
 go_enter Try.func142, Try.ntmps142
 replace H := GD H; obtain ⟨c7, H⟩ := H
 obtain ⟨c7b0, c7b1⟩ := BE c7
 clear c7
 replace H := GD H; obtain ⟨c8, H⟩ := H
 obtain ⟨c8b0, c8b1⟩ := BE c8
 clear c8
 obtain rfl := Option.some.inj H
 go_wp2_with (first | ((with_reducible refine gN 2 rfl ?_); refine pB 2 191 [.int .i64 a0_0, .int .i64 a0_1] HM rfl ?_; clear HM; intro gb1596 w3 HM) | ((with_reducible refine gN 3 rfl ?_); refine pB 3 191 [.int .i64 a1_0, .int .i64 a1_1] HM rfl ?_; clear HM; intro gb1597 w4 HM; obtain ⟨_,_,_,_⟩ := bk2 (HM.bx 0 rfl); obtain ⟨_,_,_,_⟩ := bk2 (HM.bx 1 rfl)))
 go_ret
 exact ⟨ER, (MD HM).pick []⟩
def laws_eqDeedS.l0 : Nat → List (S191) → List (S191) → Int → Option (Bool)
 | 0, _, _, _ => none
 | k + 1, x0, x1, x5 => if x5 < (x0.length : Int) then (if 0 ≤ x5 then (if x5 < (x1.length : Int) then ((laws_eqDeed.f ((rd_T191 x0 x5).f0) ((rd_T191 x0 x5).f1) ((rd_T191 x1 x5).f0) ((rd_T191 x1 x5).f1)).bind fun t1600 => (if t1600 = true then (laws_eqDeedS.l0 k x0 x1 (wrap64 (x5 + 1))) else (none))) else (none)) else (none)) else (some true)
def laws_eqDeedS.f (k : Nat) (l0 : List (S191)) (l1 : List (S191)) : Option (Bool) := if (l0.length : Int) = (l1.length : Int) then (laws_eqDeedS.l0 k l0 l1 0) else (none)
def laws_eqDeedS.T6 : Bool × List (List Nat × List Nat) := (true, [([], []), ([], []), ([0, 1], [0, 1]), ([2], [2]), ([], []), ([], []), ([4, 5], [4, 5]), ([6], [6]), ([3, 7], [3, 7]), ([8], [8])])
def laws_eqDeedS.B6 : List Nat := [0, 0, 3, 7, 0, 0, 48, 112, 255, 511]
theorem laws_eqDeedS.tab6 : rtab .any (opsOf Try.f87 6) = laws_eqDeedS.T6 := by kernel_rfl
theorem laws_eqDeedS.bits6 : waitsOk laws_eqDeedS.T6.2 laws_eqDeedS.B6 = true := by kernel_rfl
theorem laws_eqDeedS.calls (k : Nat) (A0 : Option Addr) (c0 : Nat) (l0 : List (S191)) (A1 : Option Addr) (c1 : Nat) (l1 : List (S191)) (r : Bool) (w : World) (hr0 : Kd.C k191 w A0 l0.length l0) (hc0 : l0.length ≤ c0) (hr1 : Kd.C k191 w A1 l1.length l1) (hc1 : l1.length ≤ c1) (h : laws_eqDeedS.f k l0 l1 = some r) :
  Calls Try.prog 87 #[.slice A0 l0.length c0, .slice A1 l1.length c1] w fun e w' => e = .returned (.bool r) ∧ Mem w [] w' [] := by
 have hu191 := Try.underlying191
 have HR0 := Aside0.mk hr0
 have HC0 := Aside0.mk hc0
 clear hr0 hc0
 have HR1 := Aside0.mk hr1
 have HC1 := Aside0.mk hc1
 clear hr1 hc1
 have HM := Mem.nil w
 have H := h
 clear h
 unfold laws_eqDeedS.f at H
 go_enter Try.func87, Try.ntmps87
 replace H := GD H; obtain ⟨c3, H⟩ := H
 obtain ⟨c3b0, c3b1⟩ := BE c3
 have c3b2 : (l0.length == l1.length) = true := by first | simpa using c3 | (simp at c3 ⊢; omega)
 clear c3
 have H' := Aside0.mk H
 clear H
 go_wp2
 go_loopg [5] k (fun kq v5 w' => ∃ (x5_1 : Int), v5 = .int .i64 x5_1 ∧ Aside0 (laws_eqDeedS.l0 kq l0 l1 x5_1 = some r) ∧ Aside0 (kq ≤ k) ∧ Mem w [] w' [])
 case atStart => exact ⟨(0), RS, H', ⟨Nat.le_refl _⟩, (MD HM).pick []⟩
 case round =>
  clear H' HM
  obtain ⟨x5_1, rfl, HA, HK1, HM⟩ := hrel
  cases gk with
  | zero => exact absurd HA.out (by simp [laws_eqDeedS.l0])
  | succ k1 =>
   have H := HA.out
   clear HA
   simp only [laws_eqDeedS.l0] at H
   go_upto_if 14 with (fail)
   replace H := IT H; rcases H with ⟨c4, H⟩ | ⟨c4, H⟩
   ·have c4b0 := decide_eq_true c4
    clear c4
    first|rw [c4b0]|(simp only [i64_w, i32_w]; rw [c4b0])|skip
    try go_wp2
    replace H := GD H; obtain ⟨c5, H⟩ := H
    have c5b0 := decide_eq_true c5
    clear c5
    replace H := GD H; obtain ⟨c6, H⟩ := H
    have c6b0 := decide_eq_true c6
    clear c6
    replace H := BN H; obtain ⟨t1600, A7, H⟩ := H
    have p1598 : 0 ≤ (x5_1 : Int) := of_decide_eq_true AS
    have q1598 : (x5_1 : Int) < (l0.length : Int) := of_decide_eq_true AS
    obtain ⟨ad1598, e1598, hx1598_0, hx1598_1⟩ := at_T191 (HM.came HR0.out) x5_1 p1598 q1598
    cases e1598
    replace p1598 := eq_true p1598
    replace q1598 := eq_true q1598
    have p1599 : 0 ≤ (x5_1 : Int) := of_decide_eq_true AS
    have q1599 : (x5_1 : Int) < (l1.length : Int) := of_decide_eq_true AS
    obtain ⟨ad1599, e1599, hx1599_0, hx1599_1⟩ := at_T191 (HM.came HR1.out) x5_1 p1599 q1599
    cases e1599
    replace p1599 := eq_true p1599
    replace q1599 := eq_true q1599
    refine RGN 10 [0, 1, 2, 3, 4, 5, 6, 7, 8, 9] (fun a0 b a w' => a = putSel a0 b [(0, 17, .slice (some ad1598) l0.length c0), (1, 18, .int .i64 x5_1), (2, 19, .pointer (some (ad1598.add ((x5_1).toNat * 2)))), (3, 20, .agg #[.int .i64 ((rd_T191 l0 x5_1).f0), .int .i64 ((rd_T191 l0 x5_1).f1)]), (4, 21, .slice (some ad1599) l1.length c1), (5, 22, .int .i64 x5_1), (6, 23, .pointer (some (ad1599.add ((x5_1).toNat * 2)))), (7, 24, .agg #[.int .i64 ((rd_T191 l1 x5_1).f0), .int .i64 ((rd_T191 l1 x5_1).f1)]), (8, 25, .bool t1600), (9, 26, .bool (!t1600))] ∧ Mem w [] w' []) laws_eqDeedS.tab6 laws_eqDeedS.bits6 ?_ ?_ ?_
    ·exact ⟨PS0' rfl _, (HM.drew).pick []⟩
    ·clear HM
     refine SY ?_ ?_
     ·intro b a w ha HM hb hon hoff K hK
      have e0 := PG ha 0
      exact VL (.slice (some ad1598) l0.length c0) (hK.out _ _ ⟨PUT ha 0 hb, HM⟩)
     refine SY ?_ ?_
     ·intro b a w ha HM hb hon hoff K hK
      have e5 := PG ha 5
      exact VL (.int .i64 x5_1) (hK.out _ _ ⟨PUT ha 1 hb, HM⟩)
     refine SY ?_ ?_
     ·intro b a w ha HM hb hon hoff K hK
      have p1598 : 0 ≤ (x5_1 : Int) := of_decide_eq_true AS
      have q1598 : (x5_1 : Int) < (l0.length : Int) := of_decide_eq_true AS
      obtain ⟨ad1598, e1598, hx1598_0, hx1598_1⟩ := at_T191 (HM.came HR0.out) x5_1 p1598 q1598
      obtain rfl := Option.some.inj e1598
      replace p1598 := eq_true p1598
      replace q1598 := eq_true q1598
      have e17 := PE ha 0 hon
      have e18 := PE ha 1 hon
      exact VL (.pointer (some (ad1598.add ((x5_1).toNat * 2)))) (hK.out _ _ ⟨PUT ha 2 hb, HM⟩)
     refine SY ?_ ?_
     ·intro b a w ha HM hb hon hoff K hK
      have p1598 : 0 ≤ (x5_1 : Int) := of_decide_eq_true AS
      have q1598 : (x5_1 : Int) < (l0.length : Int) := of_decide_eq_true AS
      obtain ⟨ad1598, e1598, hx1598_0, hx1598_1⟩ := at_T191 (HM.came HR0.out) x5_1 p1598 q1598
      obtain rfl := Option.some.inj e1598
      replace p1598 := eq_true p1598
      replace q1598 := eq_true q1598
      have e19 := PE ha 2 hon
      exact VL (.agg #[.int .i64 ((rd_T191 l0 x5_1).f0), .int .i64 ((rd_T191 l0 x5_1).f1)]) (hK.out _ _ ⟨PUT ha 3 hb, HM⟩)
     refine SY ?_ ?_
     ·intro b a w ha HM hb hon hoff K hK
      have e1 := PG ha 1
      exact VL (.slice (some ad1599) l1.length c1) (hK.out _ _ ⟨PUT ha 4 hb, HM⟩)
     refine SY ?_ ?_
     ·intro b a w ha HM hb hon hoff K hK
      have e5 := PG ha 5
      exact VL (.int .i64 x5_1) (hK.out _ _ ⟨PUT ha 5 hb, HM⟩)
     refine SY ?_ ?_
     ·intro b a w ha HM hb hon hoff K hK
      have p1599 : 0 ≤ (x5_1 : Int) := of_decide_eq_true AS
      have q1599 : (x5_1 : Int) < (l1.length : Int) := of_decide_eq_true AS
      obtain ⟨ad1599, e1599, hx1599_0, hx1599_1⟩ := at_T191 (HM.came HR1.out) x5_1 p1599 q1599
      obtain rfl := Option.some.inj e1599
      replace p1599 := eq_true p1599
      replace q1599 := eq_true q1599
      have e21 := PE ha 4 hon
      have e22 := PE ha 5 hon
      exact VL (.pointer (some (ad1599.add ((x5_1).toNat * 2)))) (hK.out _ _ ⟨PUT ha 6 hb, HM⟩)
     refine SY ?_ ?_
     ·intro b a w ha HM hb hon hoff K hK
      have p1599 : 0 ≤ (x5_1 : Int) := of_decide_eq_true AS
      have q1599 : (x5_1 : Int) < (l1.length : Int) := of_decide_eq_true AS
      obtain ⟨ad1599, e1599, hx1599_0, hx1599_1⟩ := at_T191 (HM.came HR1.out) x5_1 p1599 q1599
      obtain rfl := Option.some.inj e1599
      replace p1599 := eq_true p1599
      replace q1599 := eq_true q1599
      have e23 := PE ha 6 hon
      exact VL (.agg #[.int .i64 ((rd_T191 l1 x5_1).f0), .int .i64 ((rd_T191 l1 x5_1).f1)]) (hK.out _ _ ⟨PUT ha 7 hb, HM⟩)
     refine SY ?_ ?_
     ·intro b a w ha HM hb hon hoff K hK
      have e20 := PE ha 3 hon
      have e24 := PE ha 7 hon
      refine ST (eC (some 25) rfl #[.agg #[.int .i64 ((rd_T191 l0 x5_1).f0), .int .i64 ((rd_T191 l0 x5_1).f1)], .agg #[.int .i64 ((rd_T191 l1 x5_1).f0), .int .i64 ((rd_T191 l1 x5_1).f1)]] rfl Try.func142 (laws_eqDeed.calls ((rd_T191 l0 x5_1).f0) ((rd_T191 l0 x5_1).f1) ((rd_T191 l1 x5_1).f0) ((rd_T191 l1 x5_1).f1) t1600 _ A7.out) ?_ (hargs := by (simp only [List.map_toArray, List.map_cons, List.map_nil, evc, eval_of e20, eval_of e24]) <;> rfl))
      rintro e w9 ⟨rfl, hR⟩
      refine ⟨_, rfl, ?_⟩
      replace HM := HM.call hR
      clear hR
      exact hK.out _ _ ⟨PUT ha 8 hb, (HM).pick []⟩
     refine SY ?_ ?_
     ·intro b a w ha HM hb hon hoff K hK
      have e25 := PE ha 8 hon
      exact VL (.bool (!t1600)) (hK.out _ _ ⟨PUT ha 9 hb, HM⟩)
     exact steps_nil
    rintro _ w10 ⟨rfl, HM⟩
    simp only [putSel, if_true, Act.put, List.setIfInBounds_toArray, List.set_cons_zero, List.set_cons_succ, gt_iff_lt, ge_iff_le]
    replace H := GD H
    obtain ⟨c11, H⟩ := H
    subst c11
    have H' := Aside0.mk H
    clear H
    go_wp2
    go_roundg k1
    case measure => have := HK1.out; omega
    case rel => exact ⟨(wrap64 (x5_1 + 1)), RS, H', ⟨by have := HK1.out; omega⟩, (MD HM).pick []⟩
   ·have c4b0 := decide_eq_false c4
    clear c4
    first|rw [c4b0]|(simp only [i64_w, i32_w]; rw [c4b0])|skip
    obtain rfl := Option.some.inj H
    go_wp2
    go_ret
    exact ⟨ER, (MD HM).pick []⟩
def laws_eqDesk.f (k : Nat) (a0_0 : Int) (a0_1 : Int) (l0_2 : List (S122)) (l0_3 : List (S122)) (l0_4 : List Int) (l0_5 : List Int) (a0_6 : Int) (l0_7 : List Int) (l0_8 : List (S242)) (l0_9 : List Int) (l0_10 : List (S188)) (l0_11 : List (S135)) (l0_12 : List (S191)) (a1_0 : Int) (a1_1 : Int) (l1_2 : List (S122)) (l1_3 : List (S122)) (l1_4 : List Int) (l1_5 : List Int) (a1_6 : Int) (l1_7 : List Int) (l1_8 : List (S242)) (l1_9 : List Int) (l1_10 : List (S188)) (l1_11 : List (S135)) (l1_12 : List (S191)) : Option (Bool) := (laws_eqThree.f k a0_0 a0_1 l0_2 l0_3 l0_4 a1_0 a1_1 l1_2 l1_3 l1_4).bind fun t1603 => (if t1603 = true then ((laws_eqPool.f k l0_5 a0_6 l0_7 l0_8 l0_9 l1_5 a1_6 l1_7 l1_8 l1_9).bind fun t1604 => (if t1604 = true then ((laws_eqSpotS.f k l0_10 l1_10).bind fun t1605 => (if t1605 = true then ((laws_eqUserS.f k l0_11 l1_11).bind fun t1606 => (if t1606 = true then ((laws_eqDeedS.f k l0_12 l1_12).bind fun t1607 => (if t1607 = true then (some true) else (none))) else (none))) else (none))) else (none))) else (none))
theorem laws_eqDesk.calls (k : Nat) (a0_0 : Int) (a0_1 : Int) (A0_2 : Option Addr) (c0_2 : Nat) (l0_2 : List (S122)) (A0_3 : Option Addr) (c0_3 : Nat) (l0_3 : List (S122)) (A0_4 : Option Addr) (c0_4 : Nat) (l0_4 : List Int) (A0_5 : Option Addr) (c0_5 : Nat) (l0_5 : List Int) (a0_6 : Int) (A0_7 : Option Addr) (c0_7 : Nat) (l0_7 : List Int) (A0_8 : Option Addr) (c0_8 : Nat) (l0_8 : List (S242)) (A0_9 : Option Addr) (c0_9 : Nat) (l0_9 : List Int) (A0_10 : Option Addr) (c0_10 : Nat) (l0_10 : List (S188)) (A0_11 : Option Addr) (c0_11 : Nat) (l0_11 : List (S135)) (A0_12 : Option Addr) (c0_12 : Nat) (l0_12 : List (S191)) (a1_0 : Int) (a1_1 : Int) (A1_2 : Option Addr) (c1_2 : Nat) (l1_2 : List (S122)) (A1_3 : Option Addr) (c1_3 : Nat) (l1_3 : List (S122)) (A1_4 : Option Addr) (c1_4 : Nat) (l1_4 : List Int) (A1_5 : Option Addr) (c1_5 : Nat) (l1_5 : List Int) (a1_6 : Int) (A1_7 : Option Addr) (c1_7 : Nat) (l1_7 : List Int) (A1_8 : Option Addr) (c1_8 : Nat) (l1_8 : List (S242)) (A1_9 : Option Addr) (c1_9 : Nat) (l1_9 : List Int) (A1_10 : Option Addr) (c1_10 : Nat) (l1_10 : List (S188)) (A1_11 : Option Addr) (c1_11 : Nat) (l1_11 : List (S135)) (A1_12 : Option Addr) (c1_12 : Nat) (l1_12 : List (S191)) (r : Bool) (w : World) (hr0_2 : Kd.C k122 w A0_2 l0_2.length l0_2) (hc0_2 : l0_2.length ≤ c0_2) (hr0_3 : Kd.C k122 w A0_3 l0_3.length l0_3) (hc0_3 : l0_3.length ≤ c0_3) (hr0_4 : Kd.C (Kd.int .i64) w A0_4 l0_4.length l0_4) (hc0_4 : l0_4.length ≤ c0_4) (hr0_5 : Kd.C (Kd.int .i64) w A0_5 l0_5.length l0_5) (hc0_5 : l0_5.length ≤ c0_5) (hr0_7 : Kd.C (Kd.int .i64) w A0_7 l0_7.length l0_7) (hc0_7 : l0_7.length ≤ c0_7) (hr0_8 : Kd.C k242 w A0_8 l0_8.length l0_8) (hc0_8 : l0_8.length ≤ c0_8) (hr0_9 : Kd.C (Kd.int .i64) w A0_9 l0_9.length l0_9) (hc0_9 : l0_9.length ≤ c0_9) (hr0_10 : Kd.C k188 w A0_10 l0_10.length l0_10) (hc0_10 : l0_10.length ≤ c0_10) (hr0_11 : Kd.C k135 w A0_11 l0_11.length l0_11) (hc0_11 : l0_11.length ≤ c0_11) (hr0_12 : Kd.C k191 w A0_12 l0_12.length l0_12) (hc0_12 : l0_12.length ≤ c0_12) (hr1_2 : Kd.C k122 w A1_2 l1_2.length l1_2) (hc1_2 : l1_2.length ≤ c1_2) (hr1_3 : Kd.C k122 w A1_3 l1_3.length l1_3) (hc1_3 : l1_3.length ≤ c1_3) (hr1_4 : Kd.C (Kd.int .i64) w A1_4 l1_4.length l1_4) (hc1_4 : l1_4.length ≤ c1_4) (hr1_5 : Kd.C (Kd.int .i64) w A1_5 l1_5.length l1_5) (hc1_5 : l1_5.length ≤ c1_5) (hr1_7 : Kd.C (Kd.int .i64) w A1_7 l1_7.length l1_7) (hc1_7 : l1_7.length ≤ c1_7) (hr1_8 : Kd.C k242 w A1_8 l1_8.length l1_8) (hc1_8 : l1_8.length ≤ c1_8) (hr1_9 : Kd.C (Kd.int .i64) w A1_9 l1_9.length l1_9) (hc1_9 : l1_9.length ≤ c1_9) (hr1_10 : Kd.C k188 w A1_10 l1_10.length l1_10) (hc1_10 : l1_10.length ≤ c1_10) (hr1_11 : Kd.C k135 w A1_11 l1_11.length l1_11) (hc1_11 : l1_11.length ≤ c1_11) (hr1_12 : Kd.C k191 w A1_12 l1_12.length l1_12) (hc1_12 : l1_12.length ≤ c1_12) (h : laws_eqDesk.f k a0_0 a0_1 l0_2 l0_3 l0_4 l0_5 a0_6 l0_7 l0_8 l0_9 l0_10 l0_11 l0_12 a1_0 a1_1 l1_2 l1_3 l1_4 l1_5 a1_6 l1_7 l1_8 l1_9 l1_10 l1_11 l1_12 = some r) :
  Calls Try.prog 33 #[.agg #[.int .i64 a0_0, .int .i64 a0_1, .slice A0_2 l0_2.length c0_2, .slice A0_3 l0_3.length c0_3, .slice A0_4 l0_4.length c0_4, .slice A0_5 l0_5.length c0_5, .int .i64 a0_6, .slice A0_7 l0_7.length c0_7, .slice A0_8 l0_8.length c0_8, .slice A0_9 l0_9.length c0_9, .slice A0_10 l0_10.length c0_10, .slice A0_11 l0_11.length c0_11, .slice A0_12 l0_12.length c0_12], .agg #[.int .i64 a1_0, .int .i64 a1_1, .slice A1_2 l1_2.length c1_2, .slice A1_3 l1_3.length c1_3, .slice A1_4 l1_4.length c1_4, .slice A1_5 l1_5.length c1_5, .int .i64 a1_6, .slice A1_7 l1_7.length c1_7, .slice A1_8 l1_8.length c1_8, .slice A1_9 l1_9.length c1_9, .slice A1_10 l1_10.length c1_10, .slice A1_11 l1_11.length c1_11, .slice A1_12 l1_12.length c1_12]] w fun e w' => e = .returned (.bool r) ∧ Mem w [] w' [] := by
 have hu82 := Try.underlying82
 have hu32 := Try.underlying32
 have hu77 := Try.underlying77
 have HR0_2 := Aside0.mk hr0_2
 have HC0_2 := Aside0.mk hc0_2
 clear hr0_2 hc0_2
 have HR0_3 := Aside0.mk hr0_3
 have HC0_3 := Aside0.mk hc0_3
 clear hr0_3 hc0_3
 have HR0_4 := Aside0.mk hr0_4
 have HC0_4 := Aside0.mk hc0_4
 clear hr0_4 hc0_4
 have HR0_5 := Aside0.mk hr0_5
 have HC0_5 := Aside0.mk hc0_5
 clear hr0_5 hc0_5
 have HR0_7 := Aside0.mk hr0_7
 have HC0_7 := Aside0.mk hc0_7
 clear hr0_7 hc0_7
 have HR0_8 := Aside0.mk hr0_8
 have HC0_8 := Aside0.mk hc0_8
 clear hr0_8 hc0_8
 have HR0_9 := Aside0.mk hr0_9
 have HC0_9 := Aside0.mk hc0_9
 clear hr0_9 hc0_9
 have HR0_10 := Aside0.mk hr0_10
 have HC0_10 := Aside0.mk hc0_10
 clear hr0_10 hc0_10
 have HR0_11 := Aside0.mk hr0_11
 have HC0_11 := Aside0.mk hc0_11
 clear hr0_11 hc0_11
 have HR0_12 := Aside0.mk hr0_12
 have HC0_12 := Aside0.mk hc0_12
 clear hr0_12 hc0_12
 have HR1_2 := Aside0.mk hr1_2
 have HC1_2 := Aside0.mk hc1_2
 clear hr1_2 hc1_2
 have HR1_3 := Aside0.mk hr1_3
 have HC1_3 := Aside0.mk hc1_3
 clear hr1_3 hc1_3
 have HR1_4 := Aside0.mk hr1_4
 have HC1_4 := Aside0.mk hc1_4
 clear hr1_4 hc1_4
 have HR1_5 := Aside0.mk hr1_5
 have HC1_5 := Aside0.mk hc1_5
 clear hr1_5 hc1_5
 have HR1_7 := Aside0.mk hr1_7
 have HC1_7 := Aside0.mk hc1_7
 clear hr1_7 hc1_7
 have HR1_8 := Aside0.mk hr1_8
 have HC1_8 := Aside0.mk hc1_8
 clear hr1_8 hc1_8
 have HR1_9 := Aside0.mk hr1_9
 have HC1_9 := Aside0.mk hc1_9
 clear hr1_9 hc1_9
 have HR1_10 := Aside0.mk hr1_10
 have HC1_10 := Aside0.mk hc1_10
 clear hr1_10 hc1_10
 have HR1_11 := Aside0.mk hr1_11
 have HC1_11 := Aside0.mk hc1_11
 clear hr1_11 hc1_11
 have HR1_12 := Aside0.mk hr1_12
 have HC1_12 := Aside0.mk hc1_12
 clear hr1_12 hc1_12
 have HM := Mem.nil w
 have H := h
 clear h
 unfold laws_eqDesk.f at H
 go_enter Try.func33, Try.ntmps33
 replace H := BN H; obtain ⟨t1603, A7, H⟩ := H
 replace H := GD H
 obtain ⟨c9, H⟩ := H
 subst c9
 replace H := BN H; obtain ⟨t1604, A12, H⟩ := H
 replace H := GD H
 obtain ⟨c14, H⟩ := H
 subst c14
 replace H := BN H; obtain ⟨t1605, A17, H⟩ := H
 replace H := GD H
 obtain ⟨c19, H⟩ := H
 subst c19
 replace H := BN H; obtain ⟨t1606, A22, H⟩ := H
 replace H := GD H
 obtain ⟨c24, H⟩ := H
 subst c24
 replace H := BN H; obtain ⟨t1607, A27, H⟩ := H
 replace H := GD H
 obtain ⟨c29, H⟩ := H
 subst c29
 obtain rfl := Option.some.inj H
 go_wp2_with (first | ((with_reducible refine gN 2 rfl ?_); refine pB 2 82 [.int .i64 a0_0, .int .i64 a0_1, .slice A0_2 l0_2.length c0_2, .slice A0_3 l0_3.length c0_3, .slice A0_4 l0_4.length c0_4, .slice A0_5 l0_5.length c0_5, .int .i64 a0_6, .slice A0_7 l0_7.length c0_7, .slice A0_8 l0_8.length c0_8, .slice A0_9 l0_9.length c0_9, .slice A0_10 l0_10.length c0_10, .slice A0_11 l0_11.length c0_11, .slice A0_12 l0_12.length c0_12] HM rfl ?_; clear HM; intro gb1601 w3 HM) | ((with_reducible refine gN 3 rfl ?_); refine pB 3 82 [.int .i64 a1_0, .int .i64 a1_1, .slice A1_2 l1_2.length c1_2, .slice A1_3 l1_3.length c1_3, .slice A1_4 l1_4.length c1_4, .slice A1_5 l1_5.length c1_5, .int .i64 a1_6, .slice A1_7 l1_7.length c1_7, .slice A1_8 l1_8.length c1_8, .slice A1_9 l1_9.length c1_9, .slice A1_10 l1_10.length c1_10, .slice A1_11 l1_11.length c1_11, .slice A1_12 l1_12.length c1_12] HM rfl ?_; clear HM; intro gb1602 w4 HM; obtain ⟨_,_,_,_,_,_,_,_,_,_,_,_,_,_,_,_,_,_,_,_,_,_,_,_,_,_⟩ := bk13 (HM.bx 0 rfl); obtain ⟨_,_,_,_,_,_,_,_,_,_,_,_,_,_,_,_,_,_,_,_,_,_,_,_,_,_⟩ := bk13 (HM.bx 1 rfl)) | ((with_reducible refine gC 84 rfl ?_); refine pC (some 9) rfl #[.agg #[.int .i64 a0_0, .int .i64 a0_1, .slice A0_2 l0_2.length c0_2, .slice A0_3 l0_3.length c0_3, .slice A0_4 l0_4.length c0_4], .agg #[.int .i64 a1_0, .int .i64 a1_1, .slice A1_2 l1_2.length c1_2, .slice A1_3 l1_3.length c1_3, .slice A1_4 l1_4.length c1_4]] rfl Try.func84 (laws_eqThree.calls k a0_0 a0_1 _ _ l0_2 _ _ l0_3 _ _ l0_4 a1_0 a1_1 _ _ l1_2 _ _ l1_3 _ _ l1_4 true _ (HM.came HR0_2.out) HC0_2.out (HM.came HR0_3.out) HC0_3.out (HM.came HR0_4.out) HC0_4.out (HM.came HR1_2.out) HC1_2.out (HM.came HR1_3.out) HC1_3.out (HM.came HR1_4.out) HC1_4.out A7.out) ?_; rintro e w8 ⟨rfl, hR⟩; refine ⟨_, rfl, ?_⟩; replace HM := HM.call hR; clear hR; obtain ⟨_,_,_,_,_,_,_,_,_,_,_,_,_,_,_,_,_,_,_,_,_,_,_,_,_,_⟩ := bk13 (HM.bx 0 rfl); obtain ⟨_,_,_,_,_,_,_,_,_,_,_,_,_,_,_,_,_,_,_,_,_,_,_,_,_,_⟩ := bk13 (HM.bx 1 rfl)) | ((with_reducible refine gC 85 rfl ?_); refine pC (some 15) rfl #[.agg #[.slice A0_5 l0_5.length c0_5, .int .i64 a0_6, .slice A0_7 l0_7.length c0_7, .slice A0_8 l0_8.length c0_8, .slice A0_9 l0_9.length c0_9], .agg #[.slice A1_5 l1_5.length c1_5, .int .i64 a1_6, .slice A1_7 l1_7.length c1_7, .slice A1_8 l1_8.length c1_8, .slice A1_9 l1_9.length c1_9]] rfl Try.func85 (laws_eqPool.calls k _ _ l0_5 a0_6 _ _ l0_7 _ _ l0_8 _ _ l0_9 _ _ l1_5 a1_6 _ _ l1_7 _ _ l1_8 _ _ l1_9 true _ (HM.came HR0_5.out) HC0_5.out (HM.came HR0_7.out) HC0_7.out (HM.came HR0_8.out) HC0_8.out (HM.came HR0_9.out) HC0_9.out (HM.came HR1_5.out) HC1_5.out (HM.came HR1_7.out) HC1_7.out (HM.came HR1_8.out) HC1_8.out (HM.came HR1_9.out) HC1_9.out A12.out) ?_; rintro e w13 ⟨rfl, hR⟩; refine ⟨_, rfl, ?_⟩; replace HM := HM.call hR; clear hR; obtain ⟨_,_,_,_,_,_,_,_,_,_,_,_,_,_,_,_,_,_,_,_,_,_,_,_,_,_⟩ := bk13 (HM.bx 0 rfl); obtain ⟨_,_,_,_,_,_,_,_,_,_,_,_,_,_,_,_,_,_,_,_,_,_,_,_,_,_⟩ := bk13 (HM.bx 1 rfl)) | ((with_reducible refine gC 86 rfl ?_); refine pC (some 21) rfl #[.slice A0_10 l0_10.length c0_10, .slice A1_10 l1_10.length c1_10] rfl Try.func86 (laws_eqSpotS.calls k _ _ l0_10 _ _ l1_10 true _ (HM.came HR0_10.out) HC0_10.out (HM.came HR1_10.out) HC1_10.out A17.out) ?_; rintro e w18 ⟨rfl, hR⟩; refine ⟨_, rfl, ?_⟩; replace HM := HM.call hR; clear hR; obtain ⟨_,_,_,_,_,_,_,_,_,_,_,_,_,_,_,_,_,_,_,_,_,_,_,_,_,_⟩ := bk13 (HM.bx 0 rfl); obtain ⟨_,_,_,_,_,_,_,_,_,_,_,_,_,_,_,_,_,_,_,_,_,_,_,_,_,_⟩ := bk13 (HM.bx 1 rfl)) | ((with_reducible refine gC 46 rfl ?_); refine pC (some 27) rfl #[.slice A0_11 l0_11.length c0_11, .slice A1_11 l1_11.length c1_11] rfl Try.func46 (laws_eqUserS.calls k _ _ l0_11 _ _ l1_11 true _ (HM.came HR0_11.out) HC0_11.out (HM.came HR1_11.out) HC1_11.out A22.out) ?_; rintro e w23 ⟨rfl, hR⟩; refine ⟨_, rfl, ?_⟩; replace HM := HM.call hR; clear hR; obtain ⟨_,_,_,_,_,_,_,_,_,_,_,_,_,_,_,_,_,_,_,_,_,_,_,_,_,_⟩ := bk13 (HM.bx 0 rfl); obtain ⟨_,_,_,_,_,_,_,_,_,_,_,_,_,_,_,_,_,_,_,_,_,_,_,_,_,_⟩ := bk13 (HM.bx 1 rfl)) | ((with_reducible refine gC 87 rfl ?_); refine pC (some 33) rfl #[.slice A0_12 l0_12.length c0_12, .slice A1_12 l1_12.length c1_12] rfl Try.func87 (laws_eqDeedS.calls k _ _ l0_12 _ _ l1_12 true _ (HM.came HR0_12.out) HC0_12.out (HM.came HR1_12.out) HC1_12.out A27.out) ?_; rintro e w28 ⟨rfl, hR⟩; refine ⟨_, rfl, ?_⟩; replace HM := HM.call hR; clear hR))
 go_ret
 exact ⟨ER, (MD HM).pick []⟩
def laws_markText.l0 : Nat → Int → ByteArray → Option (ByteArray)
 | 0, _, _ => none
 | k + 1, x0, x3 => if x0 > 0 then ((some (([(wrap64 (48 + (Int.tmod x0 10))) % 256] : List Int) : List Int)).bind fun y382 => (if (strOfNums y382).size + x3.size ≤ 9223372036854775807 then (laws_markText.l0 k (wrap64 (Int.tdiv x0 10)) ((strOfNums y382) ++ x3)) else (none))) else (if 1 + x3.size ≤ 9223372036854775807 then (some ((⟨#[109]⟩ : ByteArray) ++ x3)) else (none))
def laws_markText.f (k : Nat) (a0 : Int) : Option (ByteArray) := if a0 ≤ 0 then (some (⟨#[109, 48]⟩ : ByteArray)) else (laws_markText.l0 k a0 (⟨#[]⟩ : ByteArray))
theorem laws_markText.calls (k : Nat) (a0 : Int) (r : ByteArray) (w : World)  (h : laws_markText.f k a0 = some r) :
  Calls Try.prog 54 #[.int .i64 a0] w fun e w' => e = .returned (.string r) ∧ Mem w [] w' [] := by
 have HM := Mem.nil w
 have H := h
 clear h
 unfold laws_markText.f at H
 go_enter Try.func54, Try.ntmps54
 go_upto_if 5 with (fail)
 replace H := IT H; rcases H with ⟨c2, H⟩ | ⟨c2, H⟩
 ·have c2b0 := decide_eq_true c2
  clear c2
  first|rw [c2b0]|(simp only [i64_w, i32_w]; rw [c2b0])|skip
  obtain rfl := Option.some.inj H
  go_wp2
  go_ret
  exact ⟨ER, (MD HM).pick []⟩
 ·have c2b0 := decide_eq_false c2
  clear c2
  first|rw [c2b0]|(simp only [i64_w, i32_w]; rw [c2b0])|skip
  have H' := Aside0.mk H
  clear H
  go_wp2
  go_loopg [0, 3] k (fun kq v0 v3 w' => ∃ (x0_1 : Int) (x3_1 : ByteArray), v0 = .int .i64 x0_1 ∧ v3 = .string x3_1 ∧ Aside0 (laws_markText.l0 kq x0_1 x3_1 = some r) ∧ Aside0 (kq ≤ k) ∧ Mem w [] w' [])
  case atStart => exact ⟨(a0), ((⟨#[]⟩ : ByteArray)), RS, RS, H', ⟨Nat.le_refl _⟩, (MD HM).pick []⟩
  case round =>
   clear H' HM
   obtain ⟨x0_1, x3_1, rfl, rfl, HA, HK1, HM⟩ := hrel
   cases gk with
   | zero => exact absurd HA.out (by simp [laws_markText.l0])
   | succ k1 =>
    have H := HA.out
    clear HA
    simp only [laws_markText.l0] at H
    go_upto_if 7 with (fail)
    replace H := IT H; rcases H with ⟨c3, H⟩ | ⟨c3, H⟩
    ·have c3b0 : decide (0 < x0_1) = true := decide_eq_true c3
     clear c3
     first|rw [c3b0]|(simp only [i64_w, i32_w]; rw [c3b0])|skip
     replace H := BLt H; obtain ⟨y382, Ny382, H⟩ := H
     replace Ny382 := Aside0.mk Ny382
     replace H := GD H; obtain ⟨c6, H⟩ := H
     have c6b0 := eq_true c6
     have c6b1 : decide ((strOfNums y382).size + x3_1.size ≤ 9223372036854775807) = true := decide_eq_true c6
     try have c6b2 : (9223372036854775807 < (strOfNums y382).size + x3_1.size) = False := eq_false (Nat.not_lt.2 c6)
     have H' := Aside0.mk H
     clear H
     go_wp2_with (first | ((with_reducible refine gN 12 rfl ?_); refine pL 12 (Kd.int .u8) 5 ([(wrap64 (48 + (Int.tmod x0_1 10))) % 256] : List Int) [.int .u8 ((wrap64 (48 + (Int.tmod x0_1 10))) % 256)] (Reps.one (show Kd.M (Kd.int .u8) _ _ _ ((wrap64 (48 + (Int.tmod x0_1 10))) % 256) [.int .u8 ((wrap64 (48 + (Int.tmod x0_1 10))) % 256)] from rfl) (Reps.none _ _)) HM rfl ?_; clear HM; intro v383 w4 HM; replace HM := HM.nm 0 rfl Ny382.out; have hcv5 := HM.str 0 rfl Try.underlying28 Try.underlying5 Try.underlying9))
     go_roundg k1
     case measure => have := HK1.out; omega
     case rel => exact ⟨(wrap64 (Int.tdiv x0_1 10)), ((strOfNums y382) ++ x3_1), RS, RS, H', ⟨by have := HK1.out; omega⟩, (MD HM).pick []⟩
    ·have c3b0 : decide (0 < x0_1) = false := decide_eq_false c3
     clear c3
     first|rw [c3b0]|(simp only [i64_w, i32_w]; rw [c3b0])|skip
     replace H := GD H; obtain ⟨c7, H⟩ := H
     have c7b0 := eq_true c7
     have c7b1 : decide (1 + x3_1.size ≤ 9223372036854775807) = true := decide_eq_true c7
     try have c7b2 : (9223372036854775807 < 1 + x3_1.size) = False := eq_false (Nat.not_lt.2 c7)
     obtain rfl := Option.some.inj H
     go_wp2
     go_ret
     exact ⟨ER, (MD HM).pick []⟩
def laws_markReplyS.l0 : Nat → List (S150) → Int → Int → Option (Int × (List (S150)))
 | 0, _, _, _ => none
 | k + 1, x0, x1, x5 => if x5 < (x0.length : Int) then (if 0 ≤ x5 then ((some (x0.set (x5 : Int).toNat (⟨((Int.tmod x1 3) == 0), (rd_T150 x0 x5).f1, (rd_T150 x0 x5).f2⟩ : S150) : List (S150))).bind fun y1608 => ((laws_markText.f k (wrap64 (x1 + 1))).bind fun t1609 => ((some (y1608.set (x5 : Int).toNat (⟨(rd_T150 y1608 x5).f0, t1609, (rd_T150 y1608 x5).f2⟩ : S150) : List (S150))).bind fun y1610 => ((laws_markText.f k (wrap64 ((wrap64 (x1 + 1)) + 1))).bind fun t1611 => (laws_markReplyS.l0 k (y1610.set (x5 : Int).toNat (⟨(rd_T150 y1610 x5).f0, (rd_T150 y1610 x5).f1, t1611⟩ : S150)) (wrap64 ((wrap64 ((wrap64 (x1 + 1)) + 1)) + 1)) (wrap64 (x5 + 1))))))) else (none)) else (some (x1, x0))
def laws_markReplyS.f (k : Nat) (l0 : List (S150)) (a1 : Int) : Option (Int × (List (S150))) := laws_markReplyS.l0 k l0 a1 0
theorem laws_markReplyS.calls (k : Nat) (u9000_ : Value) (l0 : List (S150)) (a1 : Int) (r1 : Int) (r2 : List (S150)) (w0 w : World) (F : List SP)  (hM : Mem w0 F w [row k150 150 u9000_ l0]) (h : laws_markReplyS.f k l0 a1 = some (r1, r2)) :
  Calls Try.prog 40 #[u9000_, .int .i64 a1] w fun e w' => e = .returned (.int .i64 r1) ∧ Mem w0 F w' [row k150 150 u9000_ r2] := by
 have HM := hM
 clear hM
 have H := h
 clear h
 unfold laws_markReplyS.f at H
 go_enter Try.func40, Try.ntmps40
 have H' := Aside0.mk H
 clear H
 go_wp2
 go_loopg [1, 5] k (fun kq v1 v5 w' => ∃ (x0_1 : List (S150)) (x1_1 : Int) (x5_1 : Int), v1 = .int .i64 x1_1 ∧ v5 = .int .i64 x5_1 ∧ Aside0 (laws_markReplyS.l0 kq x0_1 x1_1 x5_1 = some (r1, r2)) ∧ Aside0 (kq ≤ k) ∧ Mem w0 F w' [row k150 150 u9000_ x0_1])
 case atStart => exact ⟨(l0), (a1), (0), RS, RS, H', ⟨Nat.le_refl _⟩, (MD HM).pick [0]⟩
 case round =>
  clear H' HM
  obtain ⟨x0_1, x1_1, x5_1, rfl, rfl, HA, HK1, HM⟩ := hrel
  cases gk with
  | zero => exact absurd HA.out (by simp [laws_markReplyS.l0])
  | succ k1 =>
   have H := HA.out
   clear HA
   simp only [laws_markReplyS.l0] at H
   obtain ⟨Xo3, ko3, rfl⟩ := HM.rd 0 rfl
   go_upto_if 9 with (fail)
   replace H := IT H; rcases H with ⟨c4, H⟩ | ⟨c4, H⟩
   ·have c4b0 := decide_eq_true c4
    clear c4
    first|rw [c4b0]|(simp only [i64_w, i32_w]; rw [c4b0])|skip
    replace H := GD H; obtain ⟨c5, H⟩ := H
    have c5b0 := decide_eq_true c5
    clear c5
    replace H := BLt H; obtain ⟨y1608, Ny1608, H⟩ := H
    replace Ny1608 := Aside0.mk Ny1608
    replace H := BN H; obtain ⟨t1609, A8, H⟩ := H
    replace H := BLt H; obtain ⟨y1610, Ny1610, H⟩ := H
    replace Ny1610 := Aside0.mk Ny1610
    replace H := BN H; obtain ⟨t1611, A12, H⟩ := H
    have H' := Aside0.mk H
    clear H
    have p6 : 0 ≤ (x5_1 : Int) := of_decide_eq_true AS
    have q6 : (x5_1 : Int) < ((x0_1.length : Int) : Int) := of_decide_eq_true AS
    obtain ⟨go6, oo6, ef6⟩ := HM.formQ 0 rfl (by have h_ := (HM.C 0 rfl).1; omega)
    subst ef6
    obtain ⟨hx6_0, hx6_1, hx6_2, hf6_0, hf6_1, hf6_2⟩ := HM.elQ3 0 rfl z150 (x5_1 : Int) p6 (by have h_ := (HM.C 0 rfl).1; omega) (.bool ((rd_T150 x0_1 x5_1).f0)) (.string ((rd_T150 x0_1 x5_1).f1)) (.string ((rd_T150 x0_1 x5_1).f2)) (fun _ _ h => k150_openM h)
    replace p6 := eq_true p6
    replace q6 := eq_true q6
    go_wp2_with (first | ((with_reducible refine gS 18 rfl ?_); refine pPQ 0 18 (x5_1 : Int) 0 [.bool ((Int.tmod x1_1 3) == 0)] k150 150 x0_1 (⟨((Int.tmod x1_1 3) == 0), (rd_T150 x0_1 x5_1).f1, (rd_T150 x0_1 x5_1).f2⟩ : S150) z150 [.bool ((rd_T150 x0_1 x5_1).f0), .string ((rd_T150 x0_1 x5_1).f1), .string ((rd_T150 x0_1 x5_1).f2)] HM rfl rfl (of_decide_eq_true AS) (by have h_ : (x5_1 : Int) < ((x0_1.length : Int) : Int) := of_decide_eq_true AS; have e_ := (HM.C 0 rfl).1; omega) (fun _ _ h => k150_openM h) (k150_mkM _ _ _ (⟨((Int.tmod x1_1 3) == 0), (rd_T150 x0_1 x5_1).f1, (rd_T150 x0_1 x5_1).f2⟩ : S150)) ?_; clear HM; intro w7 HM; replace HM := HM.nmQ 0 rfl Ny1608.out) | ((with_reducible refine gC 54 rfl ?_); refine pC (some 24) rfl #[.int .i64 (wrap64 (x1_1 + 1))] rfl Try.func54 (laws_markText.calls k1 (wrap64 (x1_1 + 1)) t1609 _ A8.out) ?_; rintro e w9 ⟨rfl, hR⟩; refine ⟨_, rfl, ?_⟩; replace HM := HM.call hR; clear hR; have p10 : 0 ≤ (x5_1 : Int) := of_decide_eq_true AS; have q10 : (x5_1 : Int) < ((x0_1.length : Int) : Int) := of_decide_eq_true AS; obtain ⟨hx10_0, hx10_1, hx10_2, hf10_0, hf10_1, hf10_2⟩ := HM.elQ3 0 rfl z150 (x5_1 : Int) p10 (by have h_ := (HM.C 0 rfl).1; omega) (.bool ((rd_T150 y1608 x5_1).f0)) (.string ((rd_T150 y1608 x5_1).f1)) (.string ((rd_T150 y1608 x5_1).f2)) (fun _ _ h => k150_openM h); replace p10 := eq_true p10; replace q10 := eq_true q10) | ((with_reducible refine gS 26 rfl ?_); refine pPQ 0 26 (x5_1 : Int) 1 [.string t1609] k150 150 y1608 (⟨(rd_T150 y1608 x5_1).f0, t1609, (rd_T150 y1608 x5_1).f2⟩ : S150) z150 [.bool ((rd_T150 y1608 x5_1).f0), .string ((rd_T150 y1608 x5_1).f1), .string ((rd_T150 y1608 x5_1).f2)] HM rfl rfl (of_decide_eq_true AS) (by have h_ : (x5_1 : Int) < ((x0_1.length : Int) : Int) := of_decide_eq_true AS; have e_ := (HM.C 0 rfl).1; omega) (fun _ _ h => k150_openM h) (k150_mkM _ _ _ (⟨(rd_T150 y1608 x5_1).f0, t1609, (rd_T150 y1608 x5_1).f2⟩ : S150)) ?_; clear HM; intro w11 HM; replace HM := HM.nmQ 0 rfl Ny1610.out) | ((with_reducible refine gC 54 rfl ?_); refine pC (some 32) rfl #[.int .i64 (wrap64 ((wrap64 (x1_1 + 1)) + 1))] rfl Try.func54 (laws_markText.calls k1 (wrap64 ((wrap64 (x1_1 + 1)) + 1)) t1611 _ A12.out) ?_; rintro e w13 ⟨rfl, hR⟩; refine ⟨_, rfl, ?_⟩; replace HM := HM.call hR; clear hR; have p14 : 0 ≤ (x5_1 : Int) := of_decide_eq_true AS; have q14 : (x5_1 : Int) < ((x0_1.length : Int) : Int) := of_decide_eq_true AS; obtain ⟨hx14_0, hx14_1, hx14_2, hf14_0, hf14_1, hf14_2⟩ := HM.elQ3 0 rfl z150 (x5_1 : Int) p14 (by have h_ := (HM.C 0 rfl).1; omega) (.bool ((rd_T150 y1610 x5_1).f0)) (.string ((rd_T150 y1610 x5_1).f1)) (.string ((rd_T150 y1610 x5_1).f2)) (fun _ _ h => k150_openM h); replace p14 := eq_true p14; replace q14 := eq_true q14) | ((with_reducible refine gS 34 rfl ?_); refine pPQ 0 34 (x5_1 : Int) 2 [.string t1611] k150 150 y1610 (⟨(rd_T150 y1610 x5_1).f0, (rd_T150 y1610 x5_1).f1, t1611⟩ : S150) z150 [.bool ((rd_T150 y1610 x5_1).f0), .string ((rd_T150 y1610 x5_1).f1), .string ((rd_T150 y1610 x5_1).f2)] HM rfl rfl (of_decide_eq_true AS) (by have h_ : (x5_1 : Int) < ((x0_1.length : Int) : Int) := of_decide_eq_true AS; have e_ := (HM.C 0 rfl).1; omega) (fun _ _ h => k150_openM h) (k150_mkM _ _ _ (⟨(rd_T150 y1610 x5_1).f0, (rd_T150 y1610 x5_1).f1, t1611⟩ : S150)) ?_; clear HM; intro w15 HM))
    go_roundg k1
    case measure => have := HK1.out; omega
    case rel => exact ⟨((y1610.set (x5_1 : Int).toNat (⟨(rd_T150 y1610 x5_1).f0, (rd_T150 y1610 x5_1).f1, t1611⟩ : S150))), (wrap64 ((wrap64 ((wrap64 (x1_1 + 1)) + 1)) + 1)), (wrap64 (x5_1 + 1)), RS, RS, H', ⟨by have := HK1.out; omega⟩, (MD HM).pick [0]⟩
   ·have c4b0 := decide_eq_false c4
    clear c4
    first|rw [c4b0]|(simp only [i64_w, i32_w]; rw [c4b0])|skip
    simp only [Option.some.injEq, Prod.mk.injEq] at H
    obtain ⟨rfl, rfl⟩ := H
    go_wp2
    go_ret
    exact ⟨ER, (MD HM).pick [0]⟩
def laws_markOpS.l0 : Nat → List (S43) → Int → Int → Option (Int × (List (S43)))
 | 0, _, _, _ => none
 | k + 1, x0, x1, x5 => if x5 < (x0.length : Int) then (if 0 ≤ x5 then ((some (x0.set (x5 : Int).toNat (⟨x1, (rd_T43 x0 x5).f1, (rd_T43 x0 x5).f2⟩ : S43) : List (S43))).bind fun y1613 => ((laws_markText.f k (wrap64 (x1 + 1))).bind fun t1614 => ((some (y1613.set (x5 : Int).toNat (⟨(rd_T43 y1613 x5).f0, t1614, (rd_T43 y1613 x5).f2⟩ : S43) : List (S43))).bind fun y1615 => ((laws_markText.f k (wrap64 ((wrap64 (x1 + 1)) + 1))).bind fun t1616 => (laws_markOpS.l0 k (y1615.set (x5 : Int).toNat (⟨(rd_T43 y1615 x5).f0, (rd_T43 y1615 x5).f1, t1616⟩ : S43)) (wrap64 ((wrap64 ((wrap64 (x1 + 1)) + 1)) + 1)) (wrap64 (x5 + 1))))))) else (none)) else (some (x1, x0))
def laws_markOpS.f (k : Nat) (l0 : List (S43)) (a1 : Int) : Option (Int × (List (S43))) := laws_markOpS.l0 k l0 a1 0
theorem laws_markOpS.calls (k : Nat) (u9000_ : Value) (l0 : List (S43)) (a1 : Int) (r1 : Int) (r2 : List (S43)) (w0 w : World) (F : List SP)  (hM : Mem w0 F w [row k43 43 u9000_ l0]) (h : laws_markOpS.f k l0 a1 = some (r1, r2)) :
  Calls Try.prog 103 #[u9000_, .int .i64 a1] w fun e w' => e = .returned (.int .i64 r1) ∧ Mem w0 F w' [row k43 43 u9000_ r2] := by
 have HM := hM
 clear hM
 have H := h
 clear h
 unfold laws_markOpS.f at H
 go_enter Try.func103, Try.ntmps103
 have H' := Aside0.mk H
 clear H
 go_wp2
 go_loopg [1, 5] k (fun kq v1 v5 w' => ∃ (x0_1 : List (S43)) (x1_1 : Int) (x5_1 : Int), v1 = .int .i64 x1_1 ∧ v5 = .int .i64 x5_1 ∧ Aside0 (laws_markOpS.l0 kq x0_1 x1_1 x5_1 = some (r1, r2)) ∧ Aside0 (kq ≤ k) ∧ Mem w0 F w' [row k43 43 u9000_ x0_1])
 case atStart => exact ⟨(l0), (a1), (0), RS, RS, H', ⟨Nat.le_refl _⟩, (MD HM).pick [0]⟩
 case round =>
  clear H' HM
  obtain ⟨x0_1, x1_1, x5_1, rfl, rfl, HA, HK1, HM⟩ := hrel
  cases gk with
  | zero => exact absurd HA.out (by simp [laws_markOpS.l0])
  | succ k1 =>
   have H := HA.out
   clear HA
   simp only [laws_markOpS.l0] at H
   obtain ⟨Xo3, ko3, rfl⟩ := HM.rd 0 rfl
   go_upto_if 9 with (fail)
   replace H := IT H; rcases H with ⟨c4, H⟩ | ⟨c4, H⟩
   ·have c4b0 := decide_eq_true c4
    clear c4
    first|rw [c4b0]|(simp only [i64_w, i32_w]; rw [c4b0])|skip
    replace H := GD H; obtain ⟨c5, H⟩ := H
    have c5b0 := decide_eq_true c5
    clear c5
    replace H := BLt H; obtain ⟨y1613, Ny1613, H⟩ := H
    replace Ny1613 := Aside0.mk Ny1613
    replace H := BN H; obtain ⟨t1614, A8, H⟩ := H
    replace H := BLt H; obtain ⟨y1615, Ny1615, H⟩ := H
    replace Ny1615 := Aside0.mk Ny1615
    replace H := BN H; obtain ⟨t1616, A12, H⟩ := H
    have H' := Aside0.mk H
    clear H
    have p6 : 0 ≤ (x5_1 : Int) := of_decide_eq_true AS
    have q6 : (x5_1 : Int) < ((x0_1.length : Int) : Int) := of_decide_eq_true AS
    obtain ⟨go6, oo6, ef6⟩ := HM.formQ 0 rfl (by have h_ := (HM.C 0 rfl).1; omega)
    subst ef6
    obtain ⟨hx6_0, hx6_1, hx6_2, hf6_0, hf6_1, hf6_2⟩ := HM.elQ3 0 rfl z43 (x5_1 : Int) p6 (by have h_ := (HM.C 0 rfl).1; omega) (.int .i64 ((rd_T43 x0_1 x5_1).f0)) (.string ((rd_T43 x0_1 x5_1).f1)) (.string ((rd_T43 x0_1 x5_1).f2)) (fun _ _ h => k43_openM h)
    replace p6 := eq_true p6
    replace q6 := eq_true q6
    go_wp2_with (first | ((with_reducible refine gS 16 rfl ?_); refine pPQ 0 16 (x5_1 : Int) 0 [.int .i64 x1_1] k43 43 x0_1 (⟨x1_1, (rd_T43 x0_1 x5_1).f1, (rd_T43 x0_1 x5_1).f2⟩ : S43) z43 [.int .i64 ((rd_T43 x0_1 x5_1).f0), .string ((rd_T43 x0_1 x5_1).f1), .string ((rd_T43 x0_1 x5_1).f2)] HM rfl rfl (of_decide_eq_true AS) (by have h_ : (x5_1 : Int) < ((x0_1.length : Int) : Int) := of_decide_eq_true AS; have e_ := (HM.C 0 rfl).1; omega) (fun _ _ h => k43_openM h) (k43_mkM _ _ _ (⟨x1_1, (rd_T43 x0_1 x5_1).f1, (rd_T43 x0_1 x5_1).f2⟩ : S43)) ?_; clear HM; intro w7 HM; replace HM := HM.nmQ 0 rfl Ny1613.out) | ((with_reducible refine gC 54 rfl ?_); refine pC (some 22) rfl #[.int .i64 (wrap64 (x1_1 + 1))] rfl Try.func54 (laws_markText.calls k1 (wrap64 (x1_1 + 1)) t1614 _ A8.out) ?_; rintro e w9 ⟨rfl, hR⟩; refine ⟨_, rfl, ?_⟩; replace HM := HM.call hR; clear hR; have p10 : 0 ≤ (x5_1 : Int) := of_decide_eq_true AS; have q10 : (x5_1 : Int) < ((x0_1.length : Int) : Int) := of_decide_eq_true AS; obtain ⟨hx10_0, hx10_1, hx10_2, hf10_0, hf10_1, hf10_2⟩ := HM.elQ3 0 rfl z43 (x5_1 : Int) p10 (by have h_ := (HM.C 0 rfl).1; omega) (.int .i64 ((rd_T43 y1613 x5_1).f0)) (.string ((rd_T43 y1613 x5_1).f1)) (.string ((rd_T43 y1613 x5_1).f2)) (fun _ _ h => k43_openM h); replace p10 := eq_true p10; replace q10 := eq_true q10) | ((with_reducible refine gS 24 rfl ?_); refine pPQ 0 24 (x5_1 : Int) 1 [.string t1614] k43 43 y1613 (⟨(rd_T43 y1613 x5_1).f0, t1614, (rd_T43 y1613 x5_1).f2⟩ : S43) z43 [.int .i64 ((rd_T43 y1613 x5_1).f0), .string ((rd_T43 y1613 x5_1).f1), .string ((rd_T43 y1613 x5_1).f2)] HM rfl rfl (of_decide_eq_true AS) (by have h_ : (x5_1 : Int) < ((x0_1.length : Int) : Int) := of_decide_eq_true AS; have e_ := (HM.C 0 rfl).1; omega) (fun _ _ h => k43_openM h) (k43_mkM _ _ _ (⟨(rd_T43 y1613 x5_1).f0, t1614, (rd_T43 y1613 x5_1).f2⟩ : S43)) ?_; clear HM; intro w11 HM; replace HM := HM.nmQ 0 rfl Ny1615.out) | ((with_reducible refine gC 54 rfl ?_); refine pC (some 30) rfl #[.int .i64 (wrap64 ((wrap64 (x1_1 + 1)) + 1))] rfl Try.func54 (laws_markText.calls k1 (wrap64 ((wrap64 (x1_1 + 1)) + 1)) t1616 _ A12.out) ?_; rintro e w13 ⟨rfl, hR⟩; refine ⟨_, rfl, ?_⟩; replace HM := HM.call hR; clear hR; have p14 : 0 ≤ (x5_1 : Int) := of_decide_eq_true AS; have q14 : (x5_1 : Int) < ((x0_1.length : Int) : Int) := of_decide_eq_true AS; obtain ⟨hx14_0, hx14_1, hx14_2, hf14_0, hf14_1, hf14_2⟩ := HM.elQ3 0 rfl z43 (x5_1 : Int) p14 (by have h_ := (HM.C 0 rfl).1; omega) (.int .i64 ((rd_T43 y1615 x5_1).f0)) (.string ((rd_T43 y1615 x5_1).f1)) (.string ((rd_T43 y1615 x5_1).f2)) (fun _ _ h => k43_openM h); replace p14 := eq_true p14; replace q14 := eq_true q14) | ((with_reducible refine gS 32 rfl ?_); refine pPQ 0 32 (x5_1 : Int) 2 [.string t1616] k43 43 y1615 (⟨(rd_T43 y1615 x5_1).f0, (rd_T43 y1615 x5_1).f1, t1616⟩ : S43) z43 [.int .i64 ((rd_T43 y1615 x5_1).f0), .string ((rd_T43 y1615 x5_1).f1), .string ((rd_T43 y1615 x5_1).f2)] HM rfl rfl (of_decide_eq_true AS) (by have h_ : (x5_1 : Int) < ((x0_1.length : Int) : Int) := of_decide_eq_true AS; have e_ := (HM.C 0 rfl).1; omega) (fun _ _ h => k43_openM h) (k43_mkM _ _ _ (⟨(rd_T43 y1615 x5_1).f0, (rd_T43 y1615 x5_1).f1, t1616⟩ : S43)) ?_; clear HM; intro w15 HM))
    go_roundg k1
    case measure => have := HK1.out; omega
    case rel => exact ⟨((y1615.set (x5_1 : Int).toNat (⟨(rd_T43 y1615 x5_1).f0, (rd_T43 y1615 x5_1).f1, t1616⟩ : S43))), (wrap64 ((wrap64 ((wrap64 (x1_1 + 1)) + 1)) + 1)), (wrap64 (x5_1 + 1)), RS, RS, H', ⟨by have := HK1.out; omega⟩, (MD HM).pick [0]⟩
   ·have c4b0 := decide_eq_false c4
    clear c4
    first|rw [c4b0]|(simp only [i64_w, i32_w]; rw [c4b0])|skip
    simp only [Option.some.injEq, Prod.mk.injEq] at H
    obtain ⟨rfl, rfl⟩ := H
    go_wp2
    go_ret
    exact ⟨ER, (MD HM).pick [0]⟩
def laws_markUserS.l0 : Nat → List (S135) → Int → Int → Option (Int × (List (S135)))
 | 0, _, _, _ => none
 | k + 1, x0, x1, x5 => if x5 < (x0.length : Int) then (if 0 ≤ x5 then ((laws_markOpS.f k ((rd_T135 x0 x5).f0) x1).bind fun bt1619 => ((some (x0.set (x5 : Int).toNat (⟨bt1619.2, (rd_T135 x0 x5).f1, (rd_T135 x0 x5).f2, (rd_T135 x0 x5).f3, (rd_T135 x0 x5).f4⟩ : S135) : List (S135))).bind fun y1622 => ((some (y1622.set (x5 : Int).toNat (⟨(rd_T135 y1622 x5).f0, bt1619.1, (rd_T135 y1622 x5).f2, (rd_T135 y1622 x5).f3, (rd_T135 y1622 x5).f4⟩ : S135) : List (S135))).bind fun y1623 => ((some (y1623.set (x5 : Int).toNat (⟨(rd_T135 y1623 x5).f0, (rd_T135 y1623 x5).f1, wrap64 (bt1619.1 + 1), (rd_T135 y1623 x5).f3, (rd_T135 y1623 x5).f4⟩ : S135) : List (S135))).bind fun y1624 => ((some (y1624.set (x5 : Int).toNat (⟨(rd_T135 y1624 x5).f0, (rd_T135 y1624 x5).f1, (rd_T135 y1624 x5).f2, wrap64 ((wrap64 (bt1619.1 + 1)) + 1), (rd_T135 y1624 x5).f4⟩ : S135) : List (S135))).bind fun y1625 => ((laws_markReplyS.f k ((rd_T135 y1625 x5).f4) (wrap64 ((wrap64 ((wrap64 (bt1619.1 + 1)) + 1)) + 1))).bind fun bt1627 => (laws_markUserS.l0 k (y1625.set (x5 : Int).toNat (⟨(rd_T135 y1625 x5).f0, (rd_T135 y1625 x5).f1, (rd_T135 y1625 x5).f2, (rd_T135 y1625 x5).f3, bt1627.2⟩ : S135)) bt1627.1 (wrap64 (x5 + 1))))))))) else (none)) else (some (x1, x0))
def laws_markUserS.f (k : Nat) (l0 : List (S135)) (a1 : Int) : Option (Int × (List (S135))) := laws_markUserS.l0 k l0 a1 0
theorem laws_markUserS.calls (k : Nat) (u9000_ : Value) (l0 : List (S135)) (a1 : Int) (r1 : Int) (r2 : List (S135)) (w0 w : World) (F : List SP)  (hM : Mem w0 F w [rr x135 135 u9000_ l0]) (h : laws_markUserS.f k l0 a1 = some (r1, r2)) :
  Calls Try.prog 47 #[u9000_, .int .i64 a1] w fun e w' => e = .returned (.int .i64 r1) ∧ Mem w0 F w' [rr x135 135 u9000_ r2] := by
 have HM := hM
 clear hM
 have H := h
 clear h
 unfold laws_markUserS.f at H
 go_enter Try.func47, Try.ntmps47
 have H' := Aside0.mk H
 clear H
 go_wp2
 go_loopg [1, 5] k (fun kq v1 v5 w' => ∃ (x0_1 : List (S135)) (x1_1 : Int) (x5_1 : Int), v1 = .int .i64 x1_1 ∧ v5 = .int .i64 x5_1 ∧ Aside0 (laws_markUserS.l0 kq x0_1 x1_1 x5_1 = some (r1, r2)) ∧ Aside0 (kq ≤ k) ∧ Mem w0 F w' [rr x135 135 u9000_ x0_1])
 case atStart => exact ⟨(l0), (a1), (0), RS, RS, H', ⟨Nat.le_refl _⟩, (MD HM).pick [0]⟩
 case round =>
  clear H' HM
  obtain ⟨x0_1, x1_1, x5_1, rfl, rfl, HA, HK1, HM⟩ := hrel
  cases gk with
  | zero => exact absurd HA.out (by simp [laws_markUserS.l0])
  | succ k1 =>
   have H := HA.out
   clear HA
   simp only [laws_markUserS.l0] at H
   obtain ⟨Xo3, ko3, rfl⟩ := HM.rdRR 0 rfl
   go_upto_if 9 with (fail)
   replace H := IT H; rcases H with ⟨c4, H⟩ | ⟨c4, H⟩
   ·have c4b0 := decide_eq_true c4
    clear c4
    first|rw [c4b0]|(simp only [i64_w, i32_w]; rw [c4b0])|skip
    replace H := GD H; obtain ⟨c5, H⟩ := H
    have c5b0 := decide_eq_true c5
    clear c5
    replace H := BN H; obtain ⟨⟨t1619, t1620⟩, A6, H⟩ := H
    replace H := BLt H; obtain ⟨y1622, Ny1622, H⟩ := H
    replace Ny1622 := Aside0.mk Ny1622
    replace H := BLt H; obtain ⟨y1623, Ny1623, H⟩ := H
    replace Ny1623 := Aside0.mk Ny1623
    replace H := BLt H; obtain ⟨y1624, Ny1624, H⟩ := H
    replace Ny1624 := Aside0.mk Ny1624
    replace H := BLt H; obtain ⟨y1625, Ny1625, H⟩ := H
    replace Ny1625 := Aside0.mk Ny1625
    replace H := BN H; obtain ⟨⟨t1627, t1628⟩, A14, H⟩ := H
    have H' := Aside0.mk H
    clear H
    have pz1618 : 0 ≤ (x5_1 : Int) := of_decide_eq_true AS
    have qz1618 : (x5_1 : Int) < ((x0_1.length : Int) : Int) := of_decide_eq_true AS
    obtain ⟨go1618, ef1618⟩ := HM.formRR 0 rfl (by have h_ := (HM.CRR 0 rfl).1; omega)
    subst ef1618
    clear pz1618 qz1618
    have p1618 : 0 ≤ (x5_1 : Int) := of_decide_eq_true AS
    have q1618 : (x5_1 : Int) < (x0_1.length : Int) := of_decide_eq_true AS
    obtain ⟨ad1618, A1618_0, c1618_0, A1618_4, c1618_4, e1618, hx1618_0, hx1618_1, hx1618_2, hx1618_3, hx1618_4, l1618_0, g1618_0, l1618_4, g1618_4⟩ := at_T135 (HM.CRR 0 rfl).2.2 x5_1 p1618 q1618
    obtain rfl := Option.some.inj e1618
    (first | simp only [add_plain] at hx1618_0 | simp only [add_at] at hx1618_0 | simp only [Addr.add, Nat.zero_add] at hx1618_0 | skip)
    (first | simp only [add_plain] at hx1618_1 | simp only [add_at] at hx1618_1 | simp only [Addr.add, Nat.zero_add] at hx1618_1 | skip)
    (first | simp only [add_plain] at hx1618_2 | simp only [add_at] at hx1618_2 | simp only [Addr.add, Nat.zero_add] at hx1618_2 | skip)
    (first | simp only [add_plain] at hx1618_3 | simp only [add_at] at hx1618_3 | simp only [Addr.add, Nat.zero_add] at hx1618_3 | skip)
    (first | simp only [add_plain] at hx1618_4 | simp only [add_at] at hx1618_4 | simp only [Addr.add, Nat.zero_add] at hx1618_4 | skip)
    replace p1618 := eq_true p1618
    replace q1618 := eq_true q1618
    obtain ⟨vs_, hcs_, HM⟩ := HM.rrTake [] [0] (x5_1 : Int) z135 (by kernel_rfl) rfl (of_eq_true p1618) (of_eq_true q1618)
    replace HM : Mem w0 F wr [hol x135 135 (.slice (some ⟨go1618, 0, none⟩) x0_1.length ko3) x0_1 (x5_1 : Int).toNat vs_, row k43 43 (vs_.getD 0 (.bool false)) (rd_T135 x0_1 x5_1).f0, row k150 150 (vs_.getD 1 (.bool false)) (rd_T135 x0_1 x5_1).f4] := HM
    have ev0 := Option.some.inj ((hcs_ 0 _ rfl).symm.trans hx1618_0)
    replace ev0 : vs_.getD 0 (.bool false) = .slice A1618_0 ((rd_T135 x0_1 x5_1).f0).length c1618_0 := ev0
    rw [ev0] at HM
    have ev1 := Option.some.inj ((hcs_ 4 _ rfl).symm.trans hx1618_4)
    replace ev1 : vs_.getD 1 (.bool false) = .slice A1618_4 ((rd_T135 x0_1 x5_1).f4).length c1618_4 := ev1
    rw [ev1] at HM
    clear hcs_
    go_wp2_with (first | ((with_reducible refine gC 103 rfl ?_); refine pC (some 18) rfl #[.slice A1618_0 ((rd_T135 x0_1 x5_1).f0).length c1618_0, .int .i64 x1_1] rfl Try.func103 (laws_markOpS.calls k1 (.slice A1618_0 ((rd_T135 x0_1 x5_1).f0).length c1618_0) ((rd_T135 x0_1 x5_1).f0) x1_1 t1619 t1620 _ _ _ (HM.focus [0, 2] [1]) A6.out) ?_; rintro e w7 ⟨rfl, hR⟩; refine ⟨_, rfl, ?_⟩; replace HM := nzM hR.unfocus; clear hR; replace HM := nzM (HM.rrBack [] [0, 2, 1] (x5_1 : Int).toNat (⟨t1620, (rd_T135 x0_1 x5_1).f1, (rd_T135 x0_1 x5_1).f2, (rd_T135 x0_1 x5_1).f3, (rd_T135 x0_1 x5_1).f4⟩ : S135) z135 vs_ (by kernel_rfl) (by rw [show x135.sps (⟨t1620, (rd_T135 x0_1 x5_1).f1, (rd_T135 x0_1 x5_1).f2, (rd_T135 x0_1 x5_1).f3, (rd_T135 x0_1 x5_1).f4⟩ : S135) vs_ = [row k43 43 (.slice A1618_0 ((rd_T135 x0_1 x5_1).f0).length c1618_0) t1620, row k150 150 (.slice A1618_4 ((rd_T135 x0_1 x5_1).f4).length c1618_4) ((rd_T135 x0_1 x5_1).f4)] from by (show [row k43 43 (vs_.getD 0 (.bool false)) t1620, row k150 150 (vs_.getD 1 (.bool false)) ((rd_T135 x0_1 x5_1).f4)] = _; rw [ev0, ev1])]; rfl) (by have h_ := of_eq_true q1618; have hp_ := of_eq_true p1618; omega) rfl); clear ev0 ev1 vs_; replace HM := HM.nmRR 0 rfl Ny1622.out; have p8 : 0 ≤ (x5_1 : Int) := of_decide_eq_true AS; have q8 : (x5_1 : Int) < ((x0_1.length : Int) : Int) := of_decide_eq_true AS; clear p8 q8; have p8 : 0 ≤ (x5_1 : Int) := of_decide_eq_true AS; have q8 : (x5_1 : Int) < (y1622.length : Int) := (by have h_ : (x5_1 : Int) < ((x0_1.length : Int) : Int) := of_decide_eq_true AS; have e_ := (HM.CRR 0 rfl).1; omega); have ql8 : ((x5_1 : Int) < ((x0_1.length : Int) : Int)) = True := eq_true (of_decide_eq_true AS); obtain ⟨ad8, A8_0, c8_0, A8_4, c8_4, e8, hx8_0, hx8_1, hx8_2, hx8_3, hx8_4, l8_0, g8_0, l8_4, g8_4⟩ := at_T135 (HM.CRR 0 rfl).2.2 x5_1 p8 q8; obtain rfl := Option.some.inj e8; (first | simp only [add_plain] at hx8_0 | simp only [add_at] at hx8_0 | simp only [Addr.add, Nat.zero_add] at hx8_0 | skip); (first | simp only [add_plain] at hx8_1 | simp only [add_at] at hx8_1 | simp only [Addr.add, Nat.zero_add] at hx8_1 | skip); (first | simp only [add_plain] at hx8_2 | simp only [add_at] at hx8_2 | simp only [Addr.add, Nat.zero_add] at hx8_2 | skip); (first | simp only [add_plain] at hx8_3 | simp only [add_at] at hx8_3 | simp only [Addr.add, Nat.zero_add] at hx8_3 | skip); (first | simp only [add_plain] at hx8_4 | simp only [add_at] at hx8_4 | simp only [Addr.add, Nat.zero_add] at hx8_4 | skip); replace p8 := eq_true p8; replace q8 := eq_true q8) | ((with_reducible refine gS 23 rfl ?_); refine pPX [] 0 23 (x5_1 : Int) 1 [.int .i64 t1619] x135 135 y1622 (⟨(rd_T135 y1622 x5_1).f0, t1619, (rd_T135 y1622 x5_1).f2, (rd_T135 y1622 x5_1).f3, (rd_T135 y1622 x5_1).f4⟩ : S135) z135 HM rfl (by kernel_rfl) rfl (of_decide_eq_true AS) (by have h_ : (x5_1 : Int) < ((x0_1.length : Int) : Int) := of_decide_eq_true AS; have e_ := (HM.CRR 0 rfl).1; omega) (fun _ => rfl) (fun _ => rfl) ?_; clear HM; intro w9 HM; replace HM := nzM HM; replace HM := HM.nmRR 0 rfl Ny1623.out; have p10 : 0 ≤ (x5_1 : Int) := of_decide_eq_true AS; have q10 : (x5_1 : Int) < ((x0_1.length : Int) : Int) := of_decide_eq_true AS; clear p10 q10; have p10 : 0 ≤ (x5_1 : Int) := of_decide_eq_true AS; have q10 : (x5_1 : Int) < (y1623.length : Int) := (by have h_ : (x5_1 : Int) < ((x0_1.length : Int) : Int) := of_decide_eq_true AS; have e_ := (HM.CRR 0 rfl).1; omega); have ql10 : ((x5_1 : Int) < ((x0_1.length : Int) : Int)) = True := eq_true (of_decide_eq_true AS); obtain ⟨ad10, A10_0, c10_0, A10_4, c10_4, e10, hx10_0, hx10_1, hx10_2, hx10_3, hx10_4, l10_0, g10_0, l10_4, g10_4⟩ := at_T135 (HM.CRR 0 rfl).2.2 x5_1 p10 q10; obtain rfl := Option.some.inj e10; (first | simp only [add_plain] at hx10_0 | simp only [add_at] at hx10_0 | simp only [Addr.add, Nat.zero_add] at hx10_0 | skip); (first | simp only [add_plain] at hx10_1 | simp only [add_at] at hx10_1 | simp only [Addr.add, Nat.zero_add] at hx10_1 | skip); (first | simp only [add_plain] at hx10_2 | simp only [add_at] at hx10_2 | simp only [Addr.add, Nat.zero_add] at hx10_2 | skip); (first | simp only [add_plain] at hx10_3 | simp only [add_at] at hx10_3 | simp only [Addr.add, Nat.zero_add] at hx10_3 | skip); (first | simp only [add_plain] at hx10_4 | simp only [add_at] at hx10_4 | simp only [Addr.add, Nat.zero_add] at hx10_4 | skip); replace p10 := eq_true p10; replace q10 := eq_true q10) | ((with_reducible refine gS 30 rfl ?_); refine pPX [] 0 30 (x5_1 : Int) 2 [.int .i64 (wrap64 (t1619 + 1))] x135 135 y1623 (⟨(rd_T135 y1623 x5_1).f0, (rd_T135 y1623 x5_1).f1, wrap64 (t1619 + 1), (rd_T135 y1623 x5_1).f3, (rd_T135 y1623 x5_1).f4⟩ : S135) z135 HM rfl (by kernel_rfl) rfl (of_decide_eq_true AS) (by have h_ : (x5_1 : Int) < ((x0_1.length : Int) : Int) := of_decide_eq_true AS; have e_ := (HM.CRR 0 rfl).1; omega) (fun _ => rfl) (fun _ => rfl) ?_; clear HM; intro w11 HM; replace HM := nzM HM; replace HM := HM.nmRR 0 rfl Ny1624.out; have p12 : 0 ≤ (x5_1 : Int) := of_decide_eq_true AS; have q12 : (x5_1 : Int) < ((x0_1.length : Int) : Int) := of_decide_eq_true AS; clear p12 q12; have p12 : 0 ≤ (x5_1 : Int) := of_decide_eq_true AS; have q12 : (x5_1 : Int) < (y1624.length : Int) := (by have h_ : (x5_1 : Int) < ((x0_1.length : Int) : Int) := of_decide_eq_true AS; have e_ := (HM.CRR 0 rfl).1; omega); have ql12 : ((x5_1 : Int) < ((x0_1.length : Int) : Int)) = True := eq_true (of_decide_eq_true AS); obtain ⟨ad12, A12_0, c12_0, A12_4, c12_4, e12, hx12_0, hx12_1, hx12_2, hx12_3, hx12_4, l12_0, g12_0, l12_4, g12_4⟩ := at_T135 (HM.CRR 0 rfl).2.2 x5_1 p12 q12; obtain rfl := Option.some.inj e12; (first | simp only [add_plain] at hx12_0 | simp only [add_at] at hx12_0 | simp only [Addr.add, Nat.zero_add] at hx12_0 | skip); (first | simp only [add_plain] at hx12_1 | simp only [add_at] at hx12_1 | simp only [Addr.add, Nat.zero_add] at hx12_1 | skip); (first | simp only [add_plain] at hx12_2 | simp only [add_at] at hx12_2 | simp only [Addr.add, Nat.zero_add] at hx12_2 | skip); (first | simp only [add_plain] at hx12_3 | simp only [add_at] at hx12_3 | simp only [Addr.add, Nat.zero_add] at hx12_3 | skip); (first | simp only [add_plain] at hx12_4 | simp only [add_at] at hx12_4 | simp only [Addr.add, Nat.zero_add] at hx12_4 | skip); replace p12 := eq_true p12; replace q12 := eq_true q12) | ((with_reducible refine gS 37 rfl ?_); refine pPX [] 0 37 (x5_1 : Int) 3 [.int .i64 (wrap64 ((wrap64 (t1619 + 1)) + 1))] x135 135 y1624 (⟨(rd_T135 y1624 x5_1).f0, (rd_T135 y1624 x5_1).f1, (rd_T135 y1624 x5_1).f2, wrap64 ((wrap64 (t1619 + 1)) + 1), (rd_T135 y1624 x5_1).f4⟩ : S135) z135 HM rfl (by kernel_rfl) rfl (of_decide_eq_true AS) (by have h_ : (x5_1 : Int) < ((x0_1.length : Int) : Int) := of_decide_eq_true AS; have e_ := (HM.CRR 0 rfl).1; omega) (fun _ => rfl) (fun _ => rfl) ?_; clear HM; intro w13 HM; replace HM := nzM HM; replace HM := HM.nmRR 0 rfl Ny1625.out; have p1626 : 0 ≤ (x5_1 : Int) := of_decide_eq_true AS; have q1626 : (x5_1 : Int) < (y1625.length : Int) := (by have h_ : (x5_1 : Int) < ((x0_1.length : Int) : Int) := of_decide_eq_true AS; have e_ := (HM.CRR 0 rfl).1; omega); have ql1626 : ((x5_1 : Int) < ((x0_1.length : Int) : Int)) = True := eq_true (of_decide_eq_true AS); obtain ⟨ad1626, A1626_0, c1626_0, A1626_4, c1626_4, e1626, hx1626_0, hx1626_1, hx1626_2, hx1626_3, hx1626_4, l1626_0, g1626_0, l1626_4, g1626_4⟩ := at_T135 (HM.CRR 0 rfl).2.2 x5_1 p1626 q1626; obtain rfl := Option.some.inj e1626; (first | simp only [add_plain] at hx1626_0 | simp only [add_at] at hx1626_0 | simp only [Addr.add, Nat.zero_add] at hx1626_0 | skip); (first | simp only [add_plain] at hx1626_1 | simp only [add_at] at hx1626_1 | simp only [Addr.add, Nat.zero_add] at hx1626_1 | skip); (first | simp only [add_plain] at hx1626_2 | simp only [add_at] at hx1626_2 | simp only [Addr.add, Nat.zero_add] at hx1626_2 | skip); (first | simp only [add_plain] at hx1626_3 | simp only [add_at] at hx1626_3 | simp only [Addr.add, Nat.zero_add] at hx1626_3 | skip); (first | simp only [add_plain] at hx1626_4 | simp only [add_at] at hx1626_4 | simp only [Addr.add, Nat.zero_add] at hx1626_4 | skip); replace p1626 := eq_true p1626; replace q1626 := eq_true q1626; obtain ⟨vs_, hcs_, HM⟩ := HM.rrTake [] [0] (x5_1 : Int) z135 (by kernel_rfl) rfl (of_eq_true p1626) (of_eq_true q1626); replace HM : Mem w0 F w13 [hol x135 135 (.slice (some ⟨go1618, 0, none⟩) x0_1.length ko3) y1625 (x5_1 : Int).toNat vs_, row k43 43 (vs_.getD 0 (.bool false)) (rd_T135 y1625 x5_1).f0, row k150 150 (vs_.getD 1 (.bool false)) (rd_T135 y1625 x5_1).f4] := HM; have ev0 := Option.some.inj ((hcs_ 0 _ rfl).symm.trans hx1626_0); replace ev0 : vs_.getD 0 (.bool false) = .slice A1626_0 ((rd_T135 y1625 x5_1).f0).length c1626_0 := ev0; rw [ev0] at HM; have ev1 := Option.some.inj ((hcs_ 4 _ rfl).symm.trans hx1626_4); replace ev1 : vs_.getD 1 (.bool false) = .slice A1626_4 ((rd_T135 y1625 x5_1).f4).length c1626_4 := ev1; rw [ev1] at HM; clear hcs_) | ((with_reducible refine gC 40 rfl ?_); refine pC (some 46) rfl #[.slice A1626_4 ((rd_T135 y1625 x5_1).f4).length c1626_4, .int .i64 (wrap64 ((wrap64 ((wrap64 (t1619 + 1)) + 1)) + 1))] rfl Try.func40 (laws_markReplyS.calls k1 (.slice A1626_4 ((rd_T135 y1625 x5_1).f4).length c1626_4) ((rd_T135 y1625 x5_1).f4) (wrap64 ((wrap64 ((wrap64 (t1619 + 1)) + 1)) + 1)) t1627 t1628 _ _ _ (HM.focus [0, 1] [2]) A14.out) ?_; rintro e w15 ⟨rfl, hR⟩; refine ⟨_, rfl, ?_⟩; replace HM := nzM hR.unfocus; clear hR; replace HM := nzM (HM.rrBack [] [0, 1, 2] (x5_1 : Int).toNat (⟨(rd_T135 y1625 x5_1).f0, (rd_T135 y1625 x5_1).f1, (rd_T135 y1625 x5_1).f2, (rd_T135 y1625 x5_1).f3, t1628⟩ : S135) z135 vs_ (by kernel_rfl) (by rw [show x135.sps (⟨(rd_T135 y1625 x5_1).f0, (rd_T135 y1625 x5_1).f1, (rd_T135 y1625 x5_1).f2, (rd_T135 y1625 x5_1).f3, t1628⟩ : S135) vs_ = [row k43 43 (.slice A1626_0 ((rd_T135 y1625 x5_1).f0).length c1626_0) ((rd_T135 y1625 x5_1).f0), row k150 150 (.slice A1626_4 ((rd_T135 y1625 x5_1).f4).length c1626_4) t1628] from by (show [row k43 43 (vs_.getD 0 (.bool false)) ((rd_T135 y1625 x5_1).f0), row k150 150 (vs_.getD 1 (.bool false)) t1628] = _; rw [ev0, ev1])]; rfl) (by have h_ := of_eq_true q1626; have hp_ := of_eq_true p1626; omega) rfl); clear ev0 ev1 vs_))
    go_roundg k1
    case measure => have := HK1.out; omega
    case rel => exact ⟨((y1625.set (x5_1 : Int).toNat (⟨(rd_T135 y1625 x5_1).f0, (rd_T135 y1625 x5_1).f1, (rd_T135 y1625 x5_1).f2, (rd_T135 y1625 x5_1).f3, t1628⟩ : S135))), (t1627), (wrap64 (x5_1 + 1)), RS, RS, H', ⟨by have := HK1.out; omega⟩, (MD HM).pick [0]⟩
   ·have c4b0 : decide (x5_1 < (x0_1.length : Int)) = false := decide_eq_false c4
    clear c4
    first|rw [c4b0]|(simp only [i64_w, i32_w]; rw [c4b0])|skip
    simp only [Option.some.injEq, Prod.mk.injEq] at H
    obtain ⟨rfl, rfl⟩ := H
    go_wp2
    go_ret
    exact ⟨ER, (MD HM).pick [0]⟩
def laws_markIntS.l0 : Nat → List Int → Int → Int → Option (Int × List Int)
 | 0, _, _, _ => none
 | k + 1, x0, x1, x5 => if x5 < (x0.length : Int) then (if 0 ≤ x5 then (laws_markIntS.l0 k (x0.set (x5 : Int).toNat x1) (wrap64 (x1 + 1)) (wrap64 (x5 + 1))) else (none)) else (some (x1, x0))
def laws_markIntS.f (k : Nat) (l0 : List Int) (a1 : Int) : Option (Int × List Int) := laws_markIntS.l0 k l0 a1 0
theorem laws_markIntS.calls (k : Nat) (u9000_ : Value) (l0 : List Int) (a1 : Int) (r1 : Int) (r2 : List Int) (w0 w : World) (F : List SP)  (hM : Mem w0 F w [rowR (Kd.int .i64) 3 u9000_ l0]) (h : laws_markIntS.f k l0 a1 = some (r1, r2)) :
  Calls Try.prog 35 #[u9000_, .int .i64 a1] w fun e w' => e = .returned (.int .i64 r1) ∧ Mem w0 F w' [rowR (Kd.int .i64) 3 u9000_ r2] := by
 have HM := hM
 clear hM
 have H := h
 clear h
 unfold laws_markIntS.f at H
 go_enter Try.func35, Try.ntmps35
 have H' := Aside0.mk H
 clear H
 go_wp2
 go_loopg [1, 5] k (fun kq v1 v5 w' => ∃ (x0_1 : List Int) (x1_1 : Int) (x5_1 : Int), v1 = .int .i64 x1_1 ∧ v5 = .int .i64 x5_1 ∧ Aside0 (laws_markIntS.l0 kq x0_1 x1_1 x5_1 = some (r1, r2)) ∧ Aside0 (kq ≤ k) ∧ Mem w0 F w' [rowR (Kd.int .i64) 3 u9000_ x0_1])
 case atStart => exact ⟨(l0), (a1), (0), RS, RS, H', ⟨Nat.le_refl _⟩, (MD HM).pick [0]⟩
 case round =>
  clear H' HM
  obtain ⟨x0_1, x1_1, x5_1, rfl, rfl, HA, HK1, HM⟩ := hrel
  cases gk with
  | zero => exact absurd HA.out (by simp [laws_markIntS.l0])
  | succ k1 =>
   have H := HA.out
   clear HA
   simp only [laws_markIntS.l0] at H
   obtain ⟨Xo3, ko3, rfl⟩ := HM.rdR 0 rfl
   go_upto_if 9 with (fail)
   replace H := IT H; rcases H with ⟨c4, H⟩ | ⟨c4, H⟩
   ·have c4b0 := decide_eq_true c4
    clear c4
    first|rw [c4b0]|(simp only [i64_w, i32_w]; rw [c4b0])|skip
    replace H := GD H; obtain ⟨c5, H⟩ := H
    have c5b0 := decide_eq_true c5
    clear c5
    have H' := Aside0.mk H
    clear H
    have p6 : 0 ≤ (x5_1 : Int) := of_decide_eq_true AS
    have q6 : (x5_1 : Int) < ((x0_1.length : Int) : Int) := of_decide_eq_true AS
    obtain ⟨go6, ef6⟩ := HM.form 0 rfl (by have h_ := (HM.CR 0 rfl).1; omega)
    subst ef6
    obtain ⟨hcc6, hfr6⟩ := HM.el 0 rfl 0 (x5_1 : Int) p6 (by have h_ := (HM.CR 0 rfl).1; omega) [.int .i64 (rd x0_1 x5_1)] (fun _ _ h => h)
    have hx6_0 : wr.cell? ⟨go6, (x5_1 : Int).toNat, none⟩ = some (.int .i64 (rd x0_1 x5_1)) := (by have h_ := hcc6 0 _ rfl; first | exact h_ | (simp only [show ((Kd.int .i64)).sz = 1 from rfl, Nat.mul_one, Nat.add_zero] at h_; exact h_) | simpa using h_)
    have hf6_0 : wr.frozen? ⟨go6, (x5_1 : Int).toNat, none⟩ = false := (by have h_ := hfr6 0; first | exact h_ | (simp only [show ((Kd.int .i64)).sz = 1 from rfl, Nat.mul_one, Nat.add_zero] at h_; exact h_) | simpa using h_)
    clear hcc6 hfr6
    replace p6 := eq_true p6
    replace q6 := eq_true q6
    go_wp2_with (first | ((with_reducible refine gS 15 rfl ?_); refine pPR 0 15 (x5_1 : Int) 0 [.int .i64 x1_1] (Kd.int .i64) 3 x0_1 x1_1 0 [.int .i64 (rd x0_1 x5_1)] HM rfl rfl (of_decide_eq_true AS) (by have h_ : (x5_1 : Int) < ((x0_1.length : Int) : Int) := of_decide_eq_true AS; have e_ := (HM.CR 0 rfl).1; omega) (fun _ _ h => h) rfl ?_; clear HM; intro w7 HM))
    go_roundg k1
    case measure => have := HK1.out; omega
    case rel => exact ⟨((x0_1.set (x5_1 : Int).toNat x1_1)), (wrap64 (x1_1 + 1)), (wrap64 (x5_1 + 1)), RS, RS, H', ⟨by have := HK1.out; omega⟩, (MD HM).pick [0]⟩
   ·have c4b0 := decide_eq_false c4
    clear c4
    first|rw [c4b0]|(simp only [i64_w, i32_w]; rw [c4b0])|skip
    simp only [Option.some.injEq, Prod.mk.injEq] at H
    obtain ⟨rfl, rfl⟩ := H
    go_wp2
    go_ret
    exact ⟨ER, (MD HM).pick [0]⟩
def laws_markItemS.l0 : Nat → List (S122) → Int → Int → Option (Int × (List (S122)))
 | 0, _, _, _ => none
 | k + 1, x0, x1, x5 => if x5 < (x0.length : Int) then ((laws_markText.f k x1).bind fun t1632 => (if 0 ≤ x5 then ((some (x0.set (x5 : Int).toNat (⟨t1632, (rd_T122 x0 x5).f1, (rd_T122 x0 x5).f2⟩ : S122) : List (S122))).bind fun y1633 => ((laws_markText.f k (wrap64 (x1 + 1))).bind fun t1634 => ((some (y1633.set (x5 : Int).toNat (⟨(rd_T122 y1633 x5).f0, t1634, (rd_T122 y1633 x5).f2⟩ : S122) : List (S122))).bind fun y1635 => (laws_markItemS.l0 k (y1635.set (x5 : Int).toNat (⟨(rd_T122 y1635 x5).f0, (rd_T122 y1635 x5).f1, wrap64 ((wrap64 (x1 + 1)) + 1)⟩ : S122)) (wrap64 ((wrap64 ((wrap64 (x1 + 1)) + 1)) + 1)) (wrap64 (x5 + 1)))))) else (none))) else (some (x1, x0))
def laws_markItemS.f (k : Nat) (l0 : List (S122)) (a1 : Int) : Option (Int × (List (S122))) := laws_markItemS.l0 k l0 a1 0
theorem laws_markItemS.calls (k : Nat) (u9000_ : Value) (l0 : List (S122)) (a1 : Int) (r1 : Int) (r2 : List (S122)) (w0 w : World) (F : List SP)  (hM : Mem w0 F w [rowR k122 122 u9000_ l0]) (h : laws_markItemS.f k l0 a1 = some (r1, r2)) :
  Calls Try.prog 143 #[u9000_, .int .i64 a1] w fun e w' => e = .returned (.int .i64 r1) ∧ Mem w0 F w' [rowR k122 122 u9000_ r2] := by
 have HM := hM
 clear hM
 have H := h
 clear h
 unfold laws_markItemS.f at H
 go_enter Try.func143, Try.ntmps143
 have H' := Aside0.mk H
 clear H
 go_wp2
 go_loopg [1, 5] k (fun kq v1 v5 w' => ∃ (x0_1 : List (S122)) (x1_1 : Int) (x5_1 : Int), v1 = .int .i64 x1_1 ∧ v5 = .int .i64 x5_1 ∧ Aside0 (laws_markItemS.l0 kq x0_1 x1_1 x5_1 = some (r1, r2)) ∧ Aside0 (kq ≤ k) ∧ Mem w0 F w' [rowR k122 122 u9000_ x0_1])
 case atStart => exact ⟨(l0), (a1), (0), RS, RS, H', ⟨Nat.le_refl _⟩, (MD HM).pick [0]⟩
 case round =>
  clear H' HM
  obtain ⟨x0_1, x1_1, x5_1, rfl, rfl, HA, HK1, HM⟩ := hrel
  cases gk with
  | zero => exact absurd HA.out (by simp [laws_markItemS.l0])
  | succ k1 =>
   have H := HA.out
   clear HA
   simp only [laws_markItemS.l0] at H
   obtain ⟨Xo3, ko3, rfl⟩ := HM.rdR 0 rfl
   go_upto_if 9 with (fail)
   replace H := IT H; rcases H with ⟨c4, H⟩ | ⟨c4, H⟩
   ·have c4b0 := decide_eq_true c4
    clear c4
    first|rw [c4b0]|(simp only [i64_w, i32_w]; rw [c4b0])|skip
    replace H := BN H; obtain ⟨t1632, A5, H⟩ := H
    replace H := GD H; obtain ⟨c7, H⟩ := H
    have c7b0 := decide_eq_true c7
    clear c7
    replace H := BLt H; obtain ⟨y1633, Ny1633, H⟩ := H
    replace Ny1633 := Aside0.mk Ny1633
    replace H := BN H; obtain ⟨t1634, A10, H⟩ := H
    replace H := BLt H; obtain ⟨y1635, Ny1635, H⟩ := H
    replace Ny1635 := Aside0.mk Ny1635
    have H' := Aside0.mk H
    clear H
    go_wp2_with (first | ((with_reducible refine gC 54 rfl ?_); refine pC (some 15) rfl #[.int .i64 x1_1] rfl Try.func54 (laws_markText.calls k1 x1_1 t1632 _ A5.out) ?_; rintro e w6 ⟨rfl, hR⟩; refine ⟨_, rfl, ?_⟩; replace HM := HM.call hR; clear hR; have p8 : 0 ≤ (x5_1 : Int) := of_decide_eq_true AS; have q8 : (x5_1 : Int) < ((x0_1.length : Int) : Int) := of_decide_eq_true AS; obtain ⟨go8, ef8⟩ := HM.form 0 rfl (by have h_ := (HM.CR 0 rfl).1; omega); subst ef8; obtain ⟨hx8_0, hx8_1, hx8_2, hf8_0, hf8_1, hf8_2⟩ := HM.el3 0 rfl z122 (x5_1 : Int) p8 (by have h_ := (HM.CR 0 rfl).1; omega) (.string ((rd_T122 x0_1 x5_1).f0)) (.string ((rd_T122 x0_1 x5_1).f1)) (.int .i64 ((rd_T122 x0_1 x5_1).f2)) (fun _ _ h => k122_openM h); replace p8 := eq_true p8; replace q8 := eq_true q8) | ((with_reducible refine gS 17 rfl ?_); refine pPR 0 17 (x5_1 : Int) 0 [.string t1632] k122 122 x0_1 (⟨t1632, (rd_T122 x0_1 x5_1).f1, (rd_T122 x0_1 x5_1).f2⟩ : S122) z122 [.string ((rd_T122 x0_1 x5_1).f0), .string ((rd_T122 x0_1 x5_1).f1), .int .i64 ((rd_T122 x0_1 x5_1).f2)] HM rfl rfl (of_decide_eq_true AS) (by have h_ : (x5_1 : Int) < ((x0_1.length : Int) : Int) := of_decide_eq_true AS; have e_ := (HM.CR 0 rfl).1; omega) (fun _ _ h => k122_openM h) (k122_mkM _ _ _ (⟨t1632, (rd_T122 x0_1 x5_1).f1, (rd_T122 x0_1 x5_1).f2⟩ : S122)) ?_; clear HM; intro w9 HM; replace HM := HM.nm 0 rfl Ny1633.out) | ((with_reducible refine gC 54 rfl ?_); refine pC (some 23) rfl #[.int .i64 (wrap64 (x1_1 + 1))] rfl Try.func54 (laws_markText.calls k1 (wrap64 (x1_1 + 1)) t1634 _ A10.out) ?_; rintro e w11 ⟨rfl, hR⟩; refine ⟨_, rfl, ?_⟩; replace HM := HM.call hR; clear hR; have p12 : 0 ≤ (x5_1 : Int) := of_decide_eq_true AS; have q12 : (x5_1 : Int) < ((x0_1.length : Int) : Int) := of_decide_eq_true AS; obtain ⟨hx12_0, hx12_1, hx12_2, hf12_0, hf12_1, hf12_2⟩ := HM.el3 0 rfl z122 (x5_1 : Int) p12 (by have h_ := (HM.CR 0 rfl).1; omega) (.string ((rd_T122 y1633 x5_1).f0)) (.string ((rd_T122 y1633 x5_1).f1)) (.int .i64 ((rd_T122 y1633 x5_1).f2)) (fun _ _ h => k122_openM h); replace p12 := eq_true p12; replace q12 := eq_true q12) | ((with_reducible refine gS 25 rfl ?_); refine pPR 0 25 (x5_1 : Int) 1 [.string t1634] k122 122 y1633 (⟨(rd_T122 y1633 x5_1).f0, t1634, (rd_T122 y1633 x5_1).f2⟩ : S122) z122 [.string ((rd_T122 y1633 x5_1).f0), .string ((rd_T122 y1633 x5_1).f1), .int .i64 ((rd_T122 y1633 x5_1).f2)] HM rfl rfl (of_decide_eq_true AS) (by have h_ : (x5_1 : Int) < ((x0_1.length : Int) : Int) := of_decide_eq_true AS; have e_ := (HM.CR 0 rfl).1; omega) (fun _ _ h => k122_openM h) (k122_mkM _ _ _ (⟨(rd_T122 y1633 x5_1).f0, t1634, (rd_T122 y1633 x5_1).f2⟩ : S122)) ?_; clear HM; intro w13 HM; replace HM := HM.nm 0 rfl Ny1635.out; have p14 : 0 ≤ (x5_1 : Int) := of_decide_eq_true AS; have q14 : (x5_1 : Int) < ((x0_1.length : Int) : Int) := of_decide_eq_true AS; obtain ⟨hx14_0, hx14_1, hx14_2, hf14_0, hf14_1, hf14_2⟩ := HM.el3 0 rfl z122 (x5_1 : Int) p14 (by have h_ := (HM.CR 0 rfl).1; omega) (.string ((rd_T122 y1635 x5_1).f0)) (.string ((rd_T122 y1635 x5_1).f1)) (.int .i64 ((rd_T122 y1635 x5_1).f2)) (fun _ _ h => k122_openM h); replace p14 := eq_true p14; replace q14 := eq_true q14) | ((with_reducible refine gS 32 rfl ?_); refine pPR 0 32 (x5_1 : Int) 2 [.int .i64 (wrap64 ((wrap64 (x1_1 + 1)) + 1))] k122 122 y1635 (⟨(rd_T122 y1635 x5_1).f0, (rd_T122 y1635 x5_1).f1, wrap64 ((wrap64 (x1_1 + 1)) + 1)⟩ : S122) z122 [.string ((rd_T122 y1635 x5_1).f0), .string ((rd_T122 y1635 x5_1).f1), .int .i64 ((rd_T122 y1635 x5_1).f2)] HM rfl rfl (of_decide_eq_true AS) (by have h_ : (x5_1 : Int) < ((x0_1.length : Int) : Int) := of_decide_eq_true AS; have e_ := (HM.CR 0 rfl).1; omega) (fun _ _ h => k122_openM h) (k122_mkM _ _ _ (⟨(rd_T122 y1635 x5_1).f0, (rd_T122 y1635 x5_1).f1, wrap64 ((wrap64 (x1_1 + 1)) + 1)⟩ : S122)) ?_; clear HM; intro w15 HM))
    go_roundg k1
    case measure => have := HK1.out; omega
    case rel => exact ⟨((y1635.set (x5_1 : Int).toNat (⟨(rd_T122 y1635 x5_1).f0, (rd_T122 y1635 x5_1).f1, wrap64 ((wrap64 (x1_1 + 1)) + 1)⟩ : S122))), (wrap64 ((wrap64 ((wrap64 (x1_1 + 1)) + 1)) + 1)), (wrap64 (x5_1 + 1)), RS, RS, H', ⟨by have := HK1.out; omega⟩, (MD HM).pick [0]⟩
   ·have c4b0 := decide_eq_false c4
    clear c4
    first|rw [c4b0]|(simp only [i64_w, i32_w]; rw [c4b0])|skip
    simp only [Option.some.injEq, Prod.mk.injEq] at H
    obtain ⟨rfl, rfl⟩ := H
    go_wp2
    go_ret
    exact ⟨ER, (MD HM).pick [0]⟩
def laws_markThree.f (k : Nat) (a0_0 : Int) (a0_1 : Int) (l0_2 : List (S122)) (l0_3 : List (S122)) (l0_4 : List Int) (a1 : Int) : Option (Int × (List (S122)) × (List (S122)) × List Int) := (laws_markItemS.f k l0_2 a1).bind fun bt1638 => ((laws_markItemS.f k l0_3 bt1638.1).bind fun bt1640 => ((laws_markIntS.f k l0_4 bt1640.1).bind fun bt1642 => (some (bt1642.1, bt1638.2, bt1640.2, bt1642.2))))
theorem laws_markThree.calls (k : Nat) (a0_0 : Int) (a0_1 : Int) (u9000_ : Value) (l0_2 : List (S122)) (u9001_ : Value) (l0_3 : List (S122)) (u9002_ : Value) (l0_4 : List Int) (a1 : Int) (r1 : Int) (r2 : List (S122)) (r3 : List (S122)) (r4 : List Int) (w0 w : World) (F : List SP)  (hM : Mem w0 F w [rowR k122 122 u9000_ l0_2, rowR k122 122 u9001_ l0_3, rowR (Kd.int .i64) 3 u9002_ l0_4]) (h : laws_markThree.f k a0_0 a0_1 l0_2 l0_3 l0_4 a1 = some (r1, r2, r3, r4)) :
  Calls Try.prog 88 #[.agg #[.int .i64 a0_0, .int .i64 a0_1, u9000_, u9001_, u9002_], .int .i64 a1] w fun e w' => e = .returned (.int .i64 r1) ∧ Mem w0 F w' [rowR k122 122 u9000_ r2, rowR k122 122 u9001_ r3, rowR (Kd.int .i64) 3 u9002_ r4] := by
 have hu32 := Try.underlying32
 have HM := hM
 clear hM
 have H := h
 clear h
 unfold laws_markThree.f at H
 go_enter Try.func88, Try.ntmps88
 replace H := BN H; obtain ⟨⟨t1638, t1639⟩, A8, H⟩ := H
 replace H := BN H; obtain ⟨⟨t1640, t1641⟩, A11, H⟩ := H
 replace H := BN H; obtain ⟨⟨t1642, t1643⟩, A14, H⟩ := H
 simp only [Option.some.injEq, Prod.mk.injEq] at H
 obtain ⟨rfl, rfl, rfl, rfl⟩ := H
 obtain ⟨Xo3, ko3, rfl⟩ := HM.rdR 0 rfl
 obtain ⟨Xo4, ko4, rfl⟩ := HM.rdR 1 rfl
 obtain ⟨Xo5, ko5, rfl⟩ := HM.rdR 2 rfl
 go_wp2_with (first | ((with_reducible refine gN 2 rfl ?_); refine pB 2 32 [.int .i64 a0_0, .int .i64 a0_1, .slice Xo3 l0_2.length ko3, .slice Xo4 l0_3.length ko4, .slice Xo5 l0_4.length ko5] HM rfl ?_; clear HM; intro gb1637 w6 HM; obtain ⟨_,_,_,_,_,_,_,_,_,_⟩ := bk5 (HM.bx 3 rfl)) | ((with_reducible refine gC 143 rfl ?_); refine pC (some 8) rfl #[.slice Xo3 l0_2.length ko3, .int .i64 a1] rfl Try.func143 (laws_markItemS.calls k (.slice Xo3 l0_2.length ko3) l0_2 a1 t1638 t1639 _ _ _ (HM.focus [1, 2, 3] [0]) A8.out) ?_; rintro e w9 ⟨rfl, hR⟩; refine ⟨_, rfl, ?_⟩; replace HM := nzM hR.unfocus; clear hR; obtain ⟨_,_,_,_,_,_,_,_,_,_⟩ := bk5 (HM.bx 2 rfl)) | ((with_reducible refine gC 143 rfl ?_); refine pC (some 12) rfl #[.slice Xo4 l0_3.length ko4, .int .i64 t1638] rfl Try.func143 (laws_markItemS.calls k (.slice Xo4 l0_3.length ko4) l0_3 t1638 t1640 t1641 _ _ _ (HM.focus [1, 2, 3] [0]) A11.out) ?_; rintro e w12 ⟨rfl, hR⟩; refine ⟨_, rfl, ?_⟩; replace HM := nzM hR.unfocus; clear hR; obtain ⟨_,_,_,_,_,_,_,_,_,_⟩ := bk5 (HM.bx 1 rfl)) | ((with_reducible refine gC 35 rfl ?_); refine pC (some 16) rfl #[.slice Xo5 l0_4.length ko5, .int .i64 t1640] rfl Try.func35 (laws_markIntS.calls k (.slice Xo5 l0_4.length ko5) l0_4 t1640 t1642 t1643 _ _ _ (HM.focus [1, 2, 3] [0]) A14.out) ?_; rintro e w15 ⟨rfl, hR⟩; refine ⟨_, rfl, ?_⟩; replace HM := nzM hR.unfocus; clear hR))
 go_ret
 exact ⟨ER, (MD HM).pick [1, 2, 3]⟩
def laws_markGoneS.l0 : Nat → List (S242) → Int → Int → Option (Int × (List (S242)))
 | 0, _, _, _ => none
 | k + 1, x0, x1, x5 => if x5 < (x0.length : Int) then (if 0 ≤ x5 then ((some (x0.set (x5 : Int).toNat (⟨x1, (rd_T242 x0 x5).f1⟩ : S242) : List (S242))).bind fun y1644 => (laws_markGoneS.l0 k (y1644.set (x5 : Int).toNat (⟨(rd_T242 y1644 x5).f0, wrap64 (x1 + 1)⟩ : S242)) (wrap64 ((wrap64 (x1 + 1)) + 1)) (wrap64 (x5 + 1)))) else (none)) else (some (x1, x0))
def laws_markGoneS.f (k : Nat) (l0 : List (S242)) (a1 : Int) : Option (Int × (List (S242))) := laws_markGoneS.l0 k l0 a1 0
theorem laws_markGoneS.calls (k : Nat) (u9000_ : Value) (l0 : List (S242)) (a1 : Int) (r1 : Int) (r2 : List (S242)) (w0 w : World) (F : List SP)  (hM : Mem w0 F w [rowR k242 242 u9000_ l0]) (h : laws_markGoneS.f k l0 a1 = some (r1, r2)) :
  Calls Try.prog 182 #[u9000_, .int .i64 a1] w fun e w' => e = .returned (.int .i64 r1) ∧ Mem w0 F w' [rowR k242 242 u9000_ r2] := by
 have HM := hM
 clear hM
 have H := h
 clear h
 unfold laws_markGoneS.f at H
 go_enter Try.func182, Try.ntmps182
 have H' := Aside0.mk H
 clear H
 go_wp2
 go_loopg [1, 5] k (fun kq v1 v5 w' => ∃ (x0_1 : List (S242)) (x1_1 : Int) (x5_1 : Int), v1 = .int .i64 x1_1 ∧ v5 = .int .i64 x5_1 ∧ Aside0 (laws_markGoneS.l0 kq x0_1 x1_1 x5_1 = some (r1, r2)) ∧ Aside0 (kq ≤ k) ∧ Mem w0 F w' [rowR k242 242 u9000_ x0_1])
 case atStart => exact ⟨(l0), (a1), (0), RS, RS, H', ⟨Nat.le_refl _⟩, (MD HM).pick [0]⟩
 case round =>
  clear H' HM
  obtain ⟨x0_1, x1_1, x5_1, rfl, rfl, HA, HK1, HM⟩ := hrel
  cases gk with
  | zero => exact absurd HA.out (by simp [laws_markGoneS.l0])
  | succ k1 =>
   have H := HA.out
   clear HA
   simp only [laws_markGoneS.l0] at H
   obtain ⟨Xo3, ko3, rfl⟩ := HM.rdR 0 rfl
   go_upto_if 9 with (fail)
   replace H := IT H; rcases H with ⟨c4, H⟩ | ⟨c4, H⟩
   ·have c4b0 := decide_eq_true c4
    clear c4
    first|rw [c4b0]|(simp only [i64_w, i32_w]; rw [c4b0])|skip
    replace H := GD H; obtain ⟨c5, H⟩ := H
    have c5b0 := decide_eq_true c5
    clear c5
    replace H := BLt H; obtain ⟨y1644, Ny1644, H⟩ := H
    replace Ny1644 := Aside0.mk Ny1644
    have H' := Aside0.mk H
    clear H
    have p6 : 0 ≤ (x5_1 : Int) := of_decide_eq_true AS
    have q6 : (x5_1 : Int) < ((x0_1.length : Int) : Int) := of_decide_eq_true AS
    obtain ⟨go6, ef6⟩ := HM.form 0 rfl (by have h_ := (HM.CR 0 rfl).1; omega)
    subst ef6
    obtain ⟨hcc6, hfr6⟩ := HM.el 0 rfl z242 (x5_1 : Int) p6 (by have h_ := (HM.CR 0 rfl).1; omega) [.int .i64 ((rd_T242 x0_1 x5_1).f0), .int .i64 ((rd_T242 x0_1 x5_1).f1)] (fun _ _ h => k242_openM h)
    have hx6_0 : wr.cell? ⟨go6, (x5_1 : Int).toNat * 2, none⟩ = some (.int .i64 ((rd_T242 x0_1 x5_1).f0)) := (by have h_ := hcc6 0 _ rfl; first | exact h_ | (simp only [show (k242).sz = 2 from rfl, Nat.mul_one, Nat.add_zero] at h_; exact h_) | simpa using h_)
    have hf6_0 : wr.frozen? ⟨go6, (x5_1 : Int).toNat * 2, none⟩ = false := (by have h_ := hfr6 0; first | exact h_ | (simp only [show (k242).sz = 2 from rfl, Nat.mul_one, Nat.add_zero] at h_; exact h_) | simpa using h_)
    have hx6_1 : wr.cell? ⟨go6, (x5_1 : Int).toNat * 2 + 1, none⟩ = some (.int .i64 ((rd_T242 x0_1 x5_1).f1)) := (by have h_ := hcc6 1 _ rfl; first | exact h_ | (simp only [show (k242).sz = 2 from rfl, Nat.mul_one, Nat.add_zero] at h_; exact h_) | simpa using h_)
    have hf6_1 : wr.frozen? ⟨go6, (x5_1 : Int).toNat * 2 + 1, none⟩ = false := (by have h_ := hfr6 1; first | exact h_ | (simp only [show (k242).sz = 2 from rfl, Nat.mul_one, Nat.add_zero] at h_; exact h_) | simpa using h_)
    clear hcc6 hfr6
    replace p6 := eq_true p6
    replace q6 := eq_true q6
    go_wp2_with (first | ((with_reducible refine gS 16 rfl ?_); refine pPR 0 16 (x5_1 : Int) 0 [.int .i64 x1_1] k242 242 x0_1 (⟨x1_1, (rd_T242 x0_1 x5_1).f1⟩ : S242) z242 [.int .i64 ((rd_T242 x0_1 x5_1).f0), .int .i64 ((rd_T242 x0_1 x5_1).f1)] HM rfl rfl (of_decide_eq_true AS) (by have h_ : (x5_1 : Int) < ((x0_1.length : Int) : Int) := of_decide_eq_true AS; have e_ := (HM.CR 0 rfl).1; omega) (fun _ _ h => k242_openM h) (k242_mkM _ _ _ (⟨x1_1, (rd_T242 x0_1 x5_1).f1⟩ : S242)) ?_; clear HM; intro w7 HM; replace HM := HM.nm 0 rfl Ny1644.out; have p8 : 0 ≤ (x5_1 : Int) := of_decide_eq_true AS; have q8 : (x5_1 : Int) < ((x0_1.length : Int) : Int) := of_decide_eq_true AS; obtain ⟨hcc8, hfr8⟩ := HM.el 0 rfl z242 (x5_1 : Int) p8 (by have h_ := (HM.CR 0 rfl).1; omega) [.int .i64 ((rd_T242 y1644 x5_1).f0), .int .i64 ((rd_T242 y1644 x5_1).f1)] (fun _ _ h => k242_openM h); have hx8_0 : w7.cell? ⟨go6, (x5_1 : Int).toNat * 2, none⟩ = some (.int .i64 ((rd_T242 y1644 x5_1).f0)) := (by have h_ := hcc8 0 _ rfl; first | exact h_ | (simp only [show (k242).sz = 2 from rfl, Nat.mul_one, Nat.add_zero] at h_; exact h_) | simpa using h_); have hf8_0 : w7.frozen? ⟨go6, (x5_1 : Int).toNat * 2, none⟩ = false := (by have h_ := hfr8 0; first | exact h_ | (simp only [show (k242).sz = 2 from rfl, Nat.mul_one, Nat.add_zero] at h_; exact h_) | simpa using h_); have hx8_1 : w7.cell? ⟨go6, (x5_1 : Int).toNat * 2 + 1, none⟩ = some (.int .i64 ((rd_T242 y1644 x5_1).f1)) := (by have h_ := hcc8 1 _ rfl; first | exact h_ | (simp only [show (k242).sz = 2 from rfl, Nat.mul_one, Nat.add_zero] at h_; exact h_) | simpa using h_); have hf8_1 : w7.frozen? ⟨go6, (x5_1 : Int).toNat * 2 + 1, none⟩ = false := (by have h_ := hfr8 1; first | exact h_ | (simp only [show (k242).sz = 2 from rfl, Nat.mul_one, Nat.add_zero] at h_; exact h_) | simpa using h_); clear hcc8 hfr8; replace p8 := eq_true p8; replace q8 := eq_true q8) | ((with_reducible refine gS 23 rfl ?_); refine pPR 0 23 (x5_1 : Int) 1 [.int .i64 (wrap64 (x1_1 + 1))] k242 242 y1644 (⟨(rd_T242 y1644 x5_1).f0, wrap64 (x1_1 + 1)⟩ : S242) z242 [.int .i64 ((rd_T242 y1644 x5_1).f0), .int .i64 ((rd_T242 y1644 x5_1).f1)] HM rfl rfl (of_decide_eq_true AS) (by have h_ : (x5_1 : Int) < ((x0_1.length : Int) : Int) := of_decide_eq_true AS; have e_ := (HM.CR 0 rfl).1; omega) (fun _ _ h => k242_openM h) (k242_mkM _ _ _ (⟨(rd_T242 y1644 x5_1).f0, wrap64 (x1_1 + 1)⟩ : S242)) ?_; clear HM; intro w9 HM))
    go_roundg k1
    case measure => have := HK1.out; omega
    case rel => exact ⟨((y1644.set (x5_1 : Int).toNat (⟨(rd_T242 y1644 x5_1).f0, wrap64 (x1_1 + 1)⟩ : S242))), (wrap64 ((wrap64 (x1_1 + 1)) + 1)), (wrap64 (x5_1 + 1)), RS, RS, H', ⟨by have := HK1.out; omega⟩, (MD HM).pick [0]⟩
   ·have c4b0 := decide_eq_false c4
    clear c4
    first|rw [c4b0]|(simp only [i64_w, i32_w]; rw [c4b0])|skip
    simp only [Option.some.injEq, Prod.mk.injEq] at H
    obtain ⟨rfl, rfl⟩ := H
    go_wp2
    go_ret
    exact ⟨ER, (MD HM).pick [0]⟩
def laws_markAges.f (k : Nat) (a0_0 : Int) (l0_1 : List Int) (l0_2 : List (S242)) (a1 : Int) : Option (Int × List Int × (List (S242))) := (laws_markIntS.f k l0_1 a1).bind fun bt1647 => ((laws_markGoneS.f k l0_2 bt1647.1).bind fun bt1649 => (some (bt1649.1, bt1647.2, bt1649.2)))
theorem laws_markAges.calls (k : Nat) (a0_0 : Int) (u9000_ : Value) (l0_1 : List Int) (u9001_ : Value) (l0_2 : List (S242)) (a1 : Int) (r1 : Int) (r2 : List Int) (r3 : List (S242)) (w0 w : World) (F : List SP)  (hM : Mem w0 F w [rowR (Kd.int .i64) 3 u9000_ l0_1, rowR k242 242 u9001_ l0_2]) (h : laws_markAges.f k a0_0 l0_1 l0_2 a1 = some (r1, r2, r3)) :
  Calls Try.prog 144 #[.agg #[.int .i64 a0_0, u9000_, u9001_], .int .i64 a1] w fun e w' => e = .returned (.int .i64 r1) ∧ Mem w0 F w' [rowR (Kd.int .i64) 3 u9000_ r2, rowR k242 242 u9001_ r3] := by
 have hu75 := Try.underlying75
 have HM := hM
 clear hM
 have H := h
 clear h
 unfold laws_markAges.f at H
 go_enter Try.func144, Try.ntmps144
 replace H := BN H; obtain ⟨⟨t1647, t1648⟩, A7, H⟩ := H
 replace H := BN H; obtain ⟨⟨t1649, t1650⟩, A10, H⟩ := H
 simp only [Option.some.injEq, Prod.mk.injEq] at H
 obtain ⟨rfl, rfl, rfl⟩ := H
 obtain ⟨Xo3, ko3, rfl⟩ := HM.rdR 0 rfl
 obtain ⟨Xo4, ko4, rfl⟩ := HM.rdR 1 rfl
 go_wp2_with (first | ((with_reducible refine gN 2 rfl ?_); refine pB 2 75 [.int .i64 a0_0, .slice Xo3 l0_1.length ko3, .slice Xo4 l0_2.length ko4] HM rfl ?_; clear HM; intro gb1646 w5 HM; obtain ⟨_,_,_,_,_,_⟩ := bk3 (HM.bx 2 rfl)) | ((with_reducible refine gC 35 rfl ?_); refine pC (some 8) rfl #[.slice Xo3 l0_1.length ko3, .int .i64 a1] rfl Try.func35 (laws_markIntS.calls k (.slice Xo3 l0_1.length ko3) l0_1 a1 t1647 t1648 _ _ _ (HM.focus [1, 2] [0]) A7.out) ?_; rintro e w8 ⟨rfl, hR⟩; refine ⟨_, rfl, ?_⟩; replace HM := nzM hR.unfocus; clear hR; obtain ⟨_,_,_,_,_,_⟩ := bk3 (HM.bx 1 rfl)) | ((with_reducible refine gC 182 rfl ?_); refine pC (some 12) rfl #[.slice Xo4 l0_2.length ko4, .int .i64 t1647] rfl Try.func182 (laws_markGoneS.calls k (.slice Xo4 l0_2.length ko4) l0_2 t1647 t1649 t1650 _ _ _ (HM.focus [1, 2] [0]) A10.out) ?_; rintro e w11 ⟨rfl, hR⟩; refine ⟨_, rfl, ?_⟩; replace HM := nzM hR.unfocus; clear hR))
 go_ret
 exact ⟨ER, (MD HM).pick [1, 2]⟩
def laws_markPool.f (k : Nat) (l0_0 : List Int) (a0_1 : Int) (l0_2 : List Int) (l0_3 : List (S242)) (l0_4 : List Int) (a1 : Int) : Option (Int × List Int × List Int × (List (S242)) × List Int) := (laws_markIntS.f k l0_0 a1).bind fun bt1652 => ((laws_markAges.f k a0_1 l0_2 l0_3 bt1652.1).bind fun bt1654 => ((laws_markIntS.f k l0_4 bt1654.1).bind fun bt1657 => (some (bt1657.1, bt1652.2, bt1654.2.1, bt1654.2.2, bt1657.2))))
theorem laws_markPool.calls (k : Nat) (u9000_ : Value) (l0_0 : List Int) (a0_1 : Int) (u9001_ : Value) (l0_2 : List Int) (u9002_ : Value) (l0_3 : List (S242)) (u9003_ : Value) (l0_4 : List Int) (a1 : Int) (r1 : Int) (r2 : List Int) (r3 : List Int) (r4 : List (S242)) (r5 : List Int) (w0 w : World) (F : List SP)  (hM : Mem w0 F w [rowR (Kd.int .i64) 3 u9000_ l0_0, rowR (Kd.int .i64) 3 u9001_ l0_2, rowR k242 242 u9002_ l0_3, rowR (Kd.int .i64) 3 u9003_ l0_4]) (h : laws_markPool.f k l0_0 a0_1 l0_2 l0_3 l0_4 a1 = some (r1, r2, r3, r4, r5)) :
  Calls Try.prog 89 #[.agg #[u9000_, .int .i64 a0_1, u9001_, u9002_, u9003_], .int .i64 a1] w fun e w' => e = .returned (.int .i64 r1) ∧ Mem w0 F w' [rowR (Kd.int .i64) 3 u9000_ r2, rowR (Kd.int .i64) 3 u9001_ r3, rowR k242 242 u9002_ r4, rowR (Kd.int .i64) 3 u9003_ r5] := by
 have hu77 := Try.underlying77
 have hu75 := Try.underlying75
 have HM := hM
 clear hM
 have H := h
 clear h
 unfold laws_markPool.f at H
 go_enter Try.func89, Try.ntmps89
 replace H := BN H; obtain ⟨⟨t1652, t1653⟩, A9, H⟩ := H
 replace H := BN H; obtain ⟨⟨t1654, t1655, t1656⟩, A12, H⟩ := H
 replace H := BN H; obtain ⟨⟨t1657, t1658⟩, A15, H⟩ := H
 simp only [Option.some.injEq, Prod.mk.injEq] at H
 obtain ⟨rfl, rfl, rfl, rfl, rfl⟩ := H
 obtain ⟨Xo3, ko3, rfl⟩ := HM.rdR 0 rfl
 obtain ⟨Xo4, ko4, rfl⟩ := HM.rdR 1 rfl
 obtain ⟨Xo5, ko5, rfl⟩ := HM.rdR 2 rfl
 obtain ⟨Xo6, ko6, rfl⟩ := HM.rdR 3 rfl
 go_wp2_with (first | ((with_reducible refine gN 2 rfl ?_); refine pB 2 77 [.slice Xo3 l0_0.length ko3, .int .i64 a0_1, .slice Xo4 l0_2.length ko4, .slice Xo5 l0_3.length ko5, .slice Xo6 l0_4.length ko6] HM rfl ?_; clear HM; intro gb1651 w7 HM; obtain ⟨_,_,_,_,_,_,_,_,_,_⟩ := bk5 (HM.bx 4 rfl)) | ((with_reducible refine gC 35 rfl ?_); refine pC (some 8) rfl #[.slice Xo3 l0_0.length ko3, .int .i64 a1] rfl Try.func35 (laws_markIntS.calls k (.slice Xo3 l0_0.length ko3) l0_0 a1 t1652 t1653 _ _ _ (HM.focus [1, 2, 3, 4] [0]) A9.out) ?_; rintro e w10 ⟨rfl, hR⟩; refine ⟨_, rfl, ?_⟩; replace HM := nzM hR.unfocus; clear hR; obtain ⟨_,_,_,_,_,_,_,_,_,_⟩ := bk5 (HM.bx 3 rfl)) | ((with_reducible refine gC 144 rfl ?_); refine pC (some 12) rfl #[.agg #[.int .i64 a0_1, .slice Xo4 l0_2.length ko4, .slice Xo5 l0_3.length ko5], .int .i64 t1652] rfl Try.func144 (laws_markAges.calls k a0_1 (.slice Xo4 l0_2.length ko4) l0_2 (.slice Xo5 l0_3.length ko5) l0_3 t1652 t1654 t1655 t1656 _ _ _ (HM.focus [2, 3, 4] [0, 1]) A12.out) ?_; rintro e w13 ⟨rfl, hR⟩; refine ⟨_, rfl, ?_⟩; replace HM := nzM hR.unfocus; clear hR; obtain ⟨_,_,_,_,_,_,_,_,_,_⟩ := bk5 (HM.bx 1 rfl)) | ((with_reducible refine gC 35 rfl ?_); refine pC (some 16) rfl #[.slice Xo6 l0_4.length ko6, .int .i64 t1654] rfl Try.func35 (laws_markIntS.calls k (.slice Xo6 l0_4.length ko6) l0_4 t1654 t1657 t1658 _ _ _ (HM.focus [1, 2, 3, 4] [0]) A15.out) ?_; rintro e w16 ⟨rfl, hR⟩; refine ⟨_, rfl, ?_⟩; replace HM := nzM hR.unfocus; clear hR))
 go_ret
 exact ⟨ER, (MD HM).pick [1, 2, 3, 4]⟩
def laws_markSpotS.l0 : Nat → List (S188) → Int → Int → Option (Int × (List (S188)))
 | 0, _, _, _ => none
 | k + 1, x0, x1, x5 => if x5 < (x0.length : Int) then ((laws_markText.f k x1).bind fun t1659 => (if 0 ≤ x5 then ((some (x0.set (x5 : Int).toNat (⟨t1659, (rd_T188 x0 x5).f1⟩ : S188) : List (S188))).bind fun y1660 => (laws_markSpotS.l0 k (y1660.set (x5 : Int).toNat (⟨(rd_T188 y1660 x5).f0, wrap64 (x1 + 1)⟩ : S188)) (wrap64 ((wrap64 (x1 + 1)) + 1)) (wrap64 (x5 + 1)))) else (none))) else (some (x1, x0))
def laws_markSpotS.f (k : Nat) (l0 : List (S188)) (a1 : Int) : Option (Int × (List (S188))) := laws_markSpotS.l0 k l0 a1 0
theorem laws_markSpotS.calls (k : Nat) (u9000_ : Value) (l0 : List (S188)) (a1 : Int) (r1 : Int) (r2 : List (S188)) (w0 w : World) (F : List SP)  (hM : Mem w0 F w [rowR k188 188 u9000_ l0]) (h : laws_markSpotS.f k l0 a1 = some (r1, r2)) :
  Calls Try.prog 90 #[u9000_, .int .i64 a1] w fun e w' => e = .returned (.int .i64 r1) ∧ Mem w0 F w' [rowR k188 188 u9000_ r2] := by
 have HM := hM
 clear hM
 have H := h
 clear h
 unfold laws_markSpotS.f at H
 go_enter Try.func90, Try.ntmps90
 have H' := Aside0.mk H
 clear H
 go_wp2
 go_loopg [1, 5] k (fun kq v1 v5 w' => ∃ (x0_1 : List (S188)) (x1_1 : Int) (x5_1 : Int), v1 = .int .i64 x1_1 ∧ v5 = .int .i64 x5_1 ∧ Aside0 (laws_markSpotS.l0 kq x0_1 x1_1 x5_1 = some (r1, r2)) ∧ Aside0 (kq ≤ k) ∧ Mem w0 F w' [rowR k188 188 u9000_ x0_1])
 case atStart => exact ⟨(l0), (a1), (0), RS, RS, H', ⟨Nat.le_refl _⟩, (MD HM).pick [0]⟩
 case round =>
  clear H' HM
  obtain ⟨x0_1, x1_1, x5_1, rfl, rfl, HA, HK1, HM⟩ := hrel
  cases gk with
  | zero => exact absurd HA.out (by simp [laws_markSpotS.l0])
  | succ k1 =>
   have H := HA.out
   clear HA
   simp only [laws_markSpotS.l0] at H
   obtain ⟨Xo3, ko3, rfl⟩ := HM.rdR 0 rfl
   go_upto_if 9 with (fail)
   replace H := IT H; rcases H with ⟨c4, H⟩ | ⟨c4, H⟩
   ·have c4b0 := decide_eq_true c4
    clear c4
    first|rw [c4b0]|(simp only [i64_w, i32_w]; rw [c4b0])|skip
    replace H := BN H; obtain ⟨t1659, A5, H⟩ := H
    replace H := GD H; obtain ⟨c7, H⟩ := H
    have c7b0 := decide_eq_true c7
    clear c7
    replace H := BLt H; obtain ⟨y1660, Ny1660, H⟩ := H
    replace Ny1660 := Aside0.mk Ny1660
    have H' := Aside0.mk H
    clear H
    go_wp2_with (first | ((with_reducible refine gC 54 rfl ?_); refine pC (some 15) rfl #[.int .i64 x1_1] rfl Try.func54 (laws_markText.calls k1 x1_1 t1659 _ A5.out) ?_; rintro e w6 ⟨rfl, hR⟩; refine ⟨_, rfl, ?_⟩; replace HM := HM.call hR; clear hR; have p8 : 0 ≤ (x5_1 : Int) := of_decide_eq_true AS; have q8 : (x5_1 : Int) < ((x0_1.length : Int) : Int) := of_decide_eq_true AS; obtain ⟨go8, ef8⟩ := HM.form 0 rfl (by have h_ := (HM.CR 0 rfl).1; omega); subst ef8; obtain ⟨hcc8, hfr8⟩ := HM.el 0 rfl z188 (x5_1 : Int) p8 (by have h_ := (HM.CR 0 rfl).1; omega) [.string ((rd_T188 x0_1 x5_1).f0), .int .i64 ((rd_T188 x0_1 x5_1).f1)] (fun _ _ h => k188_openM h); have hx8_0 : w6.cell? ⟨go8, (x5_1 : Int).toNat * 2, none⟩ = some (.string ((rd_T188 x0_1 x5_1).f0)) := (by have h_ := hcc8 0 _ rfl; first | exact h_ | (simp only [show (k188).sz = 2 from rfl, Nat.mul_one, Nat.add_zero] at h_; exact h_) | simpa using h_); have hf8_0 : w6.frozen? ⟨go8, (x5_1 : Int).toNat * 2, none⟩ = false := (by have h_ := hfr8 0; first | exact h_ | (simp only [show (k188).sz = 2 from rfl, Nat.mul_one, Nat.add_zero] at h_; exact h_) | simpa using h_); have hx8_1 : w6.cell? ⟨go8, (x5_1 : Int).toNat * 2 + 1, none⟩ = some (.int .i64 ((rd_T188 x0_1 x5_1).f1)) := (by have h_ := hcc8 1 _ rfl; first | exact h_ | (simp only [show (k188).sz = 2 from rfl, Nat.mul_one, Nat.add_zero] at h_; exact h_) | simpa using h_); have hf8_1 : w6.frozen? ⟨go8, (x5_1 : Int).toNat * 2 + 1, none⟩ = false := (by have h_ := hfr8 1; first | exact h_ | (simp only [show (k188).sz = 2 from rfl, Nat.mul_one, Nat.add_zero] at h_; exact h_) | simpa using h_); clear hcc8 hfr8; replace p8 := eq_true p8; replace q8 := eq_true q8) | ((with_reducible refine gS 17 rfl ?_); refine pPR 0 17 (x5_1 : Int) 0 [.string t1659] k188 188 x0_1 (⟨t1659, (rd_T188 x0_1 x5_1).f1⟩ : S188) z188 [.string ((rd_T188 x0_1 x5_1).f0), .int .i64 ((rd_T188 x0_1 x5_1).f1)] HM rfl rfl (of_decide_eq_true AS) (by have h_ : (x5_1 : Int) < ((x0_1.length : Int) : Int) := of_decide_eq_true AS; have e_ := (HM.CR 0 rfl).1; omega) (fun _ _ h => k188_openM h) (k188_mkM _ _ _ (⟨t1659, (rd_T188 x0_1 x5_1).f1⟩ : S188)) ?_; clear HM; intro w9 HM; replace HM := HM.nm 0 rfl Ny1660.out; have p10 : 0 ≤ (x5_1 : Int) := of_decide_eq_true AS; have q10 : (x5_1 : Int) < ((x0_1.length : Int) : Int) := of_decide_eq_true AS; obtain ⟨hcc10, hfr10⟩ := HM.el 0 rfl z188 (x5_1 : Int) p10 (by have h_ := (HM.CR 0 rfl).1; omega) [.string ((rd_T188 y1660 x5_1).f0), .int .i64 ((rd_T188 y1660 x5_1).f1)] (fun _ _ h => k188_openM h); have hx10_0 : w9.cell? ⟨go8, (x5_1 : Int).toNat * 2, none⟩ = some (.string ((rd_T188 y1660 x5_1).f0)) := (by have h_ := hcc10 0 _ rfl; first | exact h_ | (simp only [show (k188).sz = 2 from rfl, Nat.mul_one, Nat.add_zero] at h_; exact h_) | simpa using h_); have hf10_0 : w9.frozen? ⟨go8, (x5_1 : Int).toNat * 2, none⟩ = false := (by have h_ := hfr10 0; first | exact h_ | (simp only [show (k188).sz = 2 from rfl, Nat.mul_one, Nat.add_zero] at h_; exact h_) | simpa using h_); have hx10_1 : w9.cell? ⟨go8, (x5_1 : Int).toNat * 2 + 1, none⟩ = some (.int .i64 ((rd_T188 y1660 x5_1).f1)) := (by have h_ := hcc10 1 _ rfl; first | exact h_ | (simp only [show (k188).sz = 2 from rfl, Nat.mul_one, Nat.add_zero] at h_; exact h_) | simpa using h_); have hf10_1 : w9.frozen? ⟨go8, (x5_1 : Int).toNat * 2 + 1, none⟩ = false := (by have h_ := hfr10 1; first | exact h_ | (simp only [show (k188).sz = 2 from rfl, Nat.mul_one, Nat.add_zero] at h_; exact h_) | simpa using h_); clear hcc10 hfr10; replace p10 := eq_true p10; replace q10 := eq_true q10) | ((with_reducible refine gS 24 rfl ?_); refine pPR 0 24 (x5_1 : Int) 1 [.int .i64 (wrap64 (x1_1 + 1))] k188 188 y1660 (⟨(rd_T188 y1660 x5_1).f0, wrap64 (x1_1 + 1)⟩ : S188) z188 [.string ((rd_T188 y1660 x5_1).f0), .int .i64 ((rd_T188 y1660 x5_1).f1)] HM rfl rfl (of_decide_eq_true AS) (by have h_ : (x5_1 : Int) < ((x0_1.length : Int) : Int) := of_decide_eq_true AS; have e_ := (HM.CR 0 rfl).1; omega) (fun _ _ h => k188_openM h) (k188_mkM _ _ _ (⟨(rd_T188 y1660 x5_1).f0, wrap64 (x1_1 + 1)⟩ : S188)) ?_; clear HM; intro w11 HM))
    go_roundg k1
    case measure => have := HK1.out; omega
    case rel => exact ⟨((y1660.set (x5_1 : Int).toNat (⟨(rd_T188 y1660 x5_1).f0, wrap64 (x1_1 + 1)⟩ : S188))), (wrap64 ((wrap64 (x1_1 + 1)) + 1)), (wrap64 (x5_1 + 1)), RS, RS, H', ⟨by have := HK1.out; omega⟩, (MD HM).pick [0]⟩
   ·have c4b0 := decide_eq_false c4
    clear c4
    first|rw [c4b0]|(simp only [i64_w, i32_w]; rw [c4b0])|skip
    simp only [Option.some.injEq, Prod.mk.injEq] at H
    obtain ⟨rfl, rfl⟩ := H
    go_wp2
    go_ret
    exact ⟨ER, (MD HM).pick [0]⟩
def laws_markDeedS.l0 : Nat → List (S191) → Int → Int → Option (Int × (List (S191)))
 | 0, _, _, _ => none
 | k + 1, x0, x1, x5 => if x5 < (x0.length : Int) then (if 0 ≤ x5 then ((some (x0.set (x5 : Int).toNat (⟨x1, (rd_T191 x0 x5).f1⟩ : S191) : List (S191))).bind fun y1662 => (laws_markDeedS.l0 k (y1662.set (x5 : Int).toNat (⟨(rd_T191 y1662 x5).f0, wrap64 (x1 + 1)⟩ : S191)) (wrap64 ((wrap64 (x1 + 1)) + 1)) (wrap64 (x5 + 1)))) else (none)) else (some (x1, x0))
def laws_markDeedS.f (k : Nat) (l0 : List (S191)) (a1 : Int) : Option (Int × (List (S191))) := laws_markDeedS.l0 k l0 a1 0
theorem laws_markDeedS.calls (k : Nat) (u9000_ : Value) (l0 : List (S191)) (a1 : Int) (r1 : Int) (r2 : List (S191)) (w0 w : World) (F : List SP)  (hM : Mem w0 F w [rowR k191 191 u9000_ l0]) (h : laws_markDeedS.f k l0 a1 = some (r1, r2)) :
  Calls Try.prog 91 #[u9000_, .int .i64 a1] w fun e w' => e = .returned (.int .i64 r1) ∧ Mem w0 F w' [rowR k191 191 u9000_ r2] := by
 have HM := hM
 clear hM
 have H := h
 clear h
 unfold laws_markDeedS.f at H
 go_enter Try.func91, Try.ntmps91
 have H' := Aside0.mk H
 clear H
 go_wp2
 go_loopg [1, 5] k (fun kq v1 v5 w' => ∃ (x0_1 : List (S191)) (x1_1 : Int) (x5_1 : Int), v1 = .int .i64 x1_1 ∧ v5 = .int .i64 x5_1 ∧ Aside0 (laws_markDeedS.l0 kq x0_1 x1_1 x5_1 = some (r1, r2)) ∧ Aside0 (kq ≤ k) ∧ Mem w0 F w' [rowR k191 191 u9000_ x0_1])
 case atStart => exact ⟨(l0), (a1), (0), RS, RS, H', ⟨Nat.le_refl _⟩, (MD HM).pick [0]⟩
 case round =>
  clear H' HM
  obtain ⟨x0_1, x1_1, x5_1, rfl, rfl, HA, HK1, HM⟩ := hrel
  cases gk with
  | zero => exact absurd HA.out (by simp [laws_markDeedS.l0])
  | succ k1 =>
   have H := HA.out
   clear HA
   simp only [laws_markDeedS.l0] at H
   obtain ⟨Xo3, ko3, rfl⟩ := HM.rdR 0 rfl
   go_upto_if 9 with (fail)
   replace H := IT H; rcases H with ⟨c4, H⟩ | ⟨c4, H⟩
   ·have c4b0 := decide_eq_true c4
    clear c4
    first|rw [c4b0]|(simp only [i64_w, i32_w]; rw [c4b0])|skip
    replace H := GD H; obtain ⟨c5, H⟩ := H
    have c5b0 := decide_eq_true c5
    clear c5
    replace H := BLt H; obtain ⟨y1662, Ny1662, H⟩ := H
    replace Ny1662 := Aside0.mk Ny1662
    have H' := Aside0.mk H
    clear H
    have p6 : 0 ≤ (x5_1 : Int) := of_decide_eq_true AS
    have q6 : (x5_1 : Int) < ((x0_1.length : Int) : Int) := of_decide_eq_true AS
    obtain ⟨go6, ef6⟩ := HM.form 0 rfl (by have h_ := (HM.CR 0 rfl).1; omega)
    subst ef6
    obtain ⟨hcc6, hfr6⟩ := HM.el 0 rfl z191 (x5_1 : Int) p6 (by have h_ := (HM.CR 0 rfl).1; omega) [.int .i64 ((rd_T191 x0_1 x5_1).f0), .int .i64 ((rd_T191 x0_1 x5_1).f1)] (fun _ _ h => k191_openM h)
    have hx6_0 : wr.cell? ⟨go6, (x5_1 : Int).toNat * 2, none⟩ = some (.int .i64 ((rd_T191 x0_1 x5_1).f0)) := (by have h_ := hcc6 0 _ rfl; first | exact h_ | (simp only [show (k191).sz = 2 from rfl, Nat.mul_one, Nat.add_zero] at h_; exact h_) | simpa using h_)
    have hf6_0 : wr.frozen? ⟨go6, (x5_1 : Int).toNat * 2, none⟩ = false := (by have h_ := hfr6 0; first | exact h_ | (simp only [show (k191).sz = 2 from rfl, Nat.mul_one, Nat.add_zero] at h_; exact h_) | simpa using h_)
    have hx6_1 : wr.cell? ⟨go6, (x5_1 : Int).toNat * 2 + 1, none⟩ = some (.int .i64 ((rd_T191 x0_1 x5_1).f1)) := (by have h_ := hcc6 1 _ rfl; first | exact h_ | (simp only [show (k191).sz = 2 from rfl, Nat.mul_one, Nat.add_zero] at h_; exact h_) | simpa using h_)
    have hf6_1 : wr.frozen? ⟨go6, (x5_1 : Int).toNat * 2 + 1, none⟩ = false := (by have h_ := hfr6 1; first | exact h_ | (simp only [show (k191).sz = 2 from rfl, Nat.mul_one, Nat.add_zero] at h_; exact h_) | simpa using h_)
    clear hcc6 hfr6
    replace p6 := eq_true p6
    replace q6 := eq_true q6
    go_wp2_with (first | ((with_reducible refine gS 16 rfl ?_); refine pPR 0 16 (x5_1 : Int) 0 [.int .i64 x1_1] k191 191 x0_1 (⟨x1_1, (rd_T191 x0_1 x5_1).f1⟩ : S191) z191 [.int .i64 ((rd_T191 x0_1 x5_1).f0), .int .i64 ((rd_T191 x0_1 x5_1).f1)] HM rfl rfl (of_decide_eq_true AS) (by have h_ : (x5_1 : Int) < ((x0_1.length : Int) : Int) := of_decide_eq_true AS; have e_ := (HM.CR 0 rfl).1; omega) (fun _ _ h => k191_openM h) (k191_mkM _ _ _ (⟨x1_1, (rd_T191 x0_1 x5_1).f1⟩ : S191)) ?_; clear HM; intro w7 HM; replace HM := HM.nm 0 rfl Ny1662.out; have p8 : 0 ≤ (x5_1 : Int) := of_decide_eq_true AS; have q8 : (x5_1 : Int) < ((x0_1.length : Int) : Int) := of_decide_eq_true AS; obtain ⟨hcc8, hfr8⟩ := HM.el 0 rfl z191 (x5_1 : Int) p8 (by have h_ := (HM.CR 0 rfl).1; omega) [.int .i64 ((rd_T191 y1662 x5_1).f0), .int .i64 ((rd_T191 y1662 x5_1).f1)] (fun _ _ h => k191_openM h); have hx8_0 : w7.cell? ⟨go6, (x5_1 : Int).toNat * 2, none⟩ = some (.int .i64 ((rd_T191 y1662 x5_1).f0)) := (by have h_ := hcc8 0 _ rfl; first | exact h_ | (simp only [show (k191).sz = 2 from rfl, Nat.mul_one, Nat.add_zero] at h_; exact h_) | simpa using h_); have hf8_0 : w7.frozen? ⟨go6, (x5_1 : Int).toNat * 2, none⟩ = false := (by have h_ := hfr8 0; first | exact h_ | (simp only [show (k191).sz = 2 from rfl, Nat.mul_one, Nat.add_zero] at h_; exact h_) | simpa using h_); have hx8_1 : w7.cell? ⟨go6, (x5_1 : Int).toNat * 2 + 1, none⟩ = some (.int .i64 ((rd_T191 y1662 x5_1).f1)) := (by have h_ := hcc8 1 _ rfl; first | exact h_ | (simp only [show (k191).sz = 2 from rfl, Nat.mul_one, Nat.add_zero] at h_; exact h_) | simpa using h_); have hf8_1 : w7.frozen? ⟨go6, (x5_1 : Int).toNat * 2 + 1, none⟩ = false := (by have h_ := hfr8 1; first | exact h_ | (simp only [show (k191).sz = 2 from rfl, Nat.mul_one, Nat.add_zero] at h_; exact h_) | simpa using h_); clear hcc8 hfr8; replace p8 := eq_true p8; replace q8 := eq_true q8) | ((with_reducible refine gS 23 rfl ?_); refine pPR 0 23 (x5_1 : Int) 1 [.int .i64 (wrap64 (x1_1 + 1))] k191 191 y1662 (⟨(rd_T191 y1662 x5_1).f0, wrap64 (x1_1 + 1)⟩ : S191) z191 [.int .i64 ((rd_T191 y1662 x5_1).f0), .int .i64 ((rd_T191 y1662 x5_1).f1)] HM rfl rfl (of_decide_eq_true AS) (by have h_ : (x5_1 : Int) < ((x0_1.length : Int) : Int) := of_decide_eq_true AS; have e_ := (HM.CR 0 rfl).1; omega) (fun _ _ h => k191_openM h) (k191_mkM _ _ _ (⟨(rd_T191 y1662 x5_1).f0, wrap64 (x1_1 + 1)⟩ : S191)) ?_; clear HM; intro w9 HM))
    go_roundg k1
    case measure => have := HK1.out; omega
    case rel => exact ⟨((y1662.set (x5_1 : Int).toNat (⟨(rd_T191 y1662 x5_1).f0, wrap64 (x1_1 + 1)⟩ : S191))), (wrap64 ((wrap64 (x1_1 + 1)) + 1)), (wrap64 (x5_1 + 1)), RS, RS, H', ⟨by have := HK1.out; omega⟩, (MD HM).pick [0]⟩
   ·have c4b0 := decide_eq_false c4
    clear c4
    first|rw [c4b0]|(simp only [i64_w, i32_w]; rw [c4b0])|skip
    simp only [Option.some.injEq, Prod.mk.injEq] at H
    obtain ⟨rfl, rfl⟩ := H
    go_wp2
    go_ret
    exact ⟨ER, (MD HM).pick [0]⟩
def laws_markDesk.f (k : Nat) (a0_0 : Int) (a0_1 : Int) (l0_2 : List (S122)) (l0_3 : List (S122)) (l0_4 : List Int) (l0_5 : List Int) (a0_6 : Int) (l0_7 : List Int) (l0_8 : List (S242)) (l0_9 : List Int) (l0_10 : List (S188)) (l0_11 : List (S135)) (l0_12 : List (S191)) (a1 : Int) : Option (Int × (List (S122)) × (List (S122)) × List Int × List Int × List Int × (List (S242)) × List Int × (List (S188)) × (List (S135)) × (List (S191))) := (laws_markThree.f k a0_0 a0_1 l0_2 l0_3 l0_4 a1).bind fun bt1665 => ((laws_markPool.f k l0_5 a0_6 l0_7 l0_8 l0_9 bt1665.1).bind fun bt1669 => ((laws_markSpotS.f k l0_10 bt1669.1).bind fun bt1674 => ((laws_markUserS.f k l0_11 bt1674.1).bind fun bt1676 => ((laws_markDeedS.f k l0_12 bt1676.1).bind fun bt1678 => (some (bt1678.1, bt1665.2.1, bt1665.2.2.1, bt1665.2.2.2, bt1669.2.1, bt1669.2.2.1, bt1669.2.2.2.1, bt1669.2.2.2.2, bt1674.2, bt1676.2, bt1678.2))))))
theorem laws_markDesk.calls (k : Nat) (a0_0 : Int) (a0_1 : Int) (u9000_ : Value) (l0_2 : List (S122)) (u9001_ : Value) (l0_3 : List (S122)) (u9002_ : Value) (l0_4 : List Int) (u9003_ : Value) (l0_5 : List Int) (a0_6 : Int) (u9004_ : Value) (l0_7 : List Int) (u9005_ : Value) (l0_8 : List (S242)) (u9006_ : Value) (l0_9 : List Int) (u9007_ : Value) (l0_10 : List (S188)) (u9008_ : Value) (l0_11 : List (S135)) (u9009_ : Value) (l0_12 : List (S191)) (a1 : Int) (r1 : Int) (r2 : List (S122)) (r3 : List (S122)) (r4 : List Int) (r5 : List Int) (r6 : List Int) (r7 : List (S242)) (r8 : List Int) (r9 : List (S188)) (r10 : List (S135)) (r11 : List (S191)) (w0 w : World) (F : List SP)  (hM : Mem w0 F w [rowR k122 122 u9000_ l0_2, rowR k122 122 u9001_ l0_3, rowR (Kd.int .i64) 3 u9002_ l0_4, rowR (Kd.int .i64) 3 u9003_ l0_5, rowR (Kd.int .i64) 3 u9004_ l0_7, rowR k242 242 u9005_ l0_8, rowR (Kd.int .i64) 3 u9006_ l0_9, rowR k188 188 u9007_ l0_10, rr x135 135 u9008_ l0_11, rowR k191 191 u9009_ l0_12]) (h : laws_markDesk.f k a0_0 a0_1 l0_2 l0_3 l0_4 l0_5 a0_6 l0_7 l0_8 l0_9 l0_10 l0_11 l0_12 a1 = some (r1, r2, r3, r4, r5, r6, r7, r8, r9, r10, r11)) :
  Calls Try.prog 34 #[.agg #[.int .i64 a0_0, .int .i64 a0_1, u9000_, u9001_, u9002_, u9003_, .int .i64 a0_6, u9004_, u9005_, u9006_, u9007_, u9008_, u9009_], .int .i64 a1] w fun e w' => e = .returned (.int .i64 r1) ∧ Mem w0 F w' [rowR k122 122 u9000_ r2, rowR k122 122 u9001_ r3, rowR (Kd.int .i64) 3 u9002_ r4, rowR (Kd.int .i64) 3 u9003_ r5, rowR (Kd.int .i64) 3 u9004_ r6, rowR k242 242 u9005_ r7, rowR (Kd.int .i64) 3 u9006_ r8, rowR k188 188 u9007_ r9, rr x135 135 u9008_ r10, rowR k191 191 u9009_ r11] := by
 have hu82 := Try.underlying82
 have hu32 := Try.underlying32
 have hu77 := Try.underlying77
 have HM := hM
 clear hM
 have H := h
 clear h
 unfold laws_markDesk.f at H
 go_enter Try.func34, Try.ntmps34
 replace H := BN H; obtain ⟨⟨t1665, t1666, t1667, t1668⟩, A15, H⟩ := H
 replace H := BN H; obtain ⟨⟨t1669, t1670, t1671, t1672, t1673⟩, A18, H⟩ := H
 replace H := BN H; obtain ⟨⟨t1674, t1675⟩, A21, H⟩ := H
 replace H := BN H; obtain ⟨⟨t1676, t1677⟩, A24, H⟩ := H
 replace H := BN H; obtain ⟨⟨t1678, t1679⟩, A27, H⟩ := H
 simp only [Option.some.injEq, Prod.mk.injEq] at H
 obtain ⟨rfl, rfl, rfl, rfl, rfl, rfl, rfl, rfl, rfl, rfl, rfl⟩ := H
 obtain ⟨Xo3, ko3, rfl⟩ := HM.rdR 0 rfl
 obtain ⟨Xo4, ko4, rfl⟩ := HM.rdR 1 rfl
 obtain ⟨Xo5, ko5, rfl⟩ := HM.rdR 2 rfl
 obtain ⟨Xo6, ko6, rfl⟩ := HM.rdR 3 rfl
 obtain ⟨Xo7, ko7, rfl⟩ := HM.rdR 4 rfl
 obtain ⟨Xo8, ko8, rfl⟩ := HM.rdR 5 rfl
 obtain ⟨Xo9, ko9, rfl⟩ := HM.rdR 6 rfl
 obtain ⟨Xo10, ko10, rfl⟩ := HM.rdR 7 rfl
 obtain ⟨Xo11, ko11, rfl⟩ := HM.rdRR 8 rfl
 obtain ⟨Xo12, ko12, rfl⟩ := HM.rdR 9 rfl
 go_wp2_with (first | ((with_reducible refine gN 2 rfl ?_); refine pB 2 82 [.int .i64 a0_0, .int .i64 a0_1, .slice Xo3 l0_2.length ko3, .slice Xo4 l0_3.length ko4, .slice Xo5 l0_4.length ko5, .slice Xo6 l0_5.length ko6, .int .i64 a0_6, .slice Xo7 l0_7.length ko7, .slice Xo8 l0_8.length ko8, .slice Xo9 l0_9.length ko9, .slice Xo10 l0_10.length ko10, .slice Xo11 l0_11.length ko11, .slice Xo12 l0_12.length ko12] HM rfl ?_; clear HM; intro gb1664 w13 HM; obtain ⟨_,_,_,_,_,_,_,_,_,_,_,_,_,_,_,_,_,_,_,_,_,_,_,_,_,_⟩ := bk13 (HM.bx 10 rfl)) | ((with_reducible refine gC 88 rfl ?_); refine pC (some 8) rfl #[.agg #[.int .i64 a0_0, .int .i64 a0_1, .slice Xo3 l0_2.length ko3, .slice Xo4 l0_3.length ko4, .slice Xo5 l0_4.length ko5], .int .i64 a1] rfl Try.func88 (laws_markThree.calls k a0_0 a0_1 (.slice Xo3 l0_2.length ko3) l0_2 (.slice Xo4 l0_3.length ko4) l0_3 (.slice Xo5 l0_4.length ko5) l0_4 a1 t1665 t1666 t1667 t1668 _ _ _ (HM.focus [3, 4, 5, 6, 7, 8, 9, 10] [0, 1, 2]) A15.out) ?_; rintro e w16 ⟨rfl, hR⟩; refine ⟨_, rfl, ?_⟩; replace HM := nzM hR.unfocus; clear hR; obtain ⟨_,_,_,_,_,_,_,_,_,_,_,_,_,_,_,_,_,_,_,_,_,_,_,_,_,_⟩ := bk13 (HM.bx 7 rfl)) | ((with_reducible refine gC 89 rfl ?_); refine pC (some 12) rfl #[.agg #[.slice Xo6 l0_5.length ko6, .int .i64 a0_6, .slice Xo7 l0_7.length ko7, .slice Xo8 l0_8.length ko8, .slice Xo9 l0_9.length ko9], .int .i64 t1665] rfl Try.func89 (laws_markPool.calls k (.slice Xo6 l0_5.length ko6) l0_5 a0_6 (.slice Xo7 l0_7.length ko7) l0_7 (.slice Xo8 l0_8.length ko8) l0_8 (.slice Xo9 l0_9.length ko9) l0_9 t1665 t1669 t1670 t1671 t1672 t1673 _ _ _ (HM.focus [4, 5, 6, 7, 8, 9, 10] [0, 1, 2, 3]) A18.out) ?_; rintro e w19 ⟨rfl, hR⟩; refine ⟨_, rfl, ?_⟩; replace HM := nzM hR.unfocus; clear hR; obtain ⟨_,_,_,_,_,_,_,_,_,_,_,_,_,_,_,_,_,_,_,_,_,_,_,_,_,_⟩ := bk13 (HM.bx 3 rfl)) | ((with_reducible refine gC 90 rfl ?_); refine pC (some 16) rfl #[.slice Xo10 l0_10.length ko10, .int .i64 t1669] rfl Try.func90 (laws_markSpotS.calls k (.slice Xo10 l0_10.length ko10) l0_10 t1669 t1674 t1675 _ _ _ (HM.focus [1, 2, 3, 4, 5, 6, 7, 8, 9, 10] [0]) A21.out) ?_; rintro e w22 ⟨rfl, hR⟩; refine ⟨_, rfl, ?_⟩; replace HM := nzM hR.unfocus; clear hR; obtain ⟨_,_,_,_,_,_,_,_,_,_,_,_,_,_,_,_,_,_,_,_,_,_,_,_,_,_⟩ := bk13 (HM.bx 2 rfl)) | ((with_reducible refine gC 47 rfl ?_); refine pC (some 20) rfl #[.slice Xo11 l0_11.length ko11, .int .i64 t1674] rfl Try.func47 (laws_markUserS.calls k (.slice Xo11 l0_11.length ko11) l0_11 t1674 t1676 t1677 _ _ _ (HM.focus [1, 2, 3, 4, 5, 6, 7, 8, 9, 10] [0]) A24.out) ?_; rintro e w25 ⟨rfl, hR⟩; refine ⟨_, rfl, ?_⟩; replace HM := nzM hR.unfocus; clear hR; obtain ⟨_,_,_,_,_,_,_,_,_,_,_,_,_,_,_,_,_,_,_,_,_,_,_,_,_,_⟩ := bk13 (HM.bx 1 rfl)) | ((with_reducible refine gC 91 rfl ?_); refine pC (some 24) rfl #[.slice Xo12 l0_12.length ko12, .int .i64 t1676] rfl Try.func91 (laws_markDeedS.calls k (.slice Xo12 l0_12.length ko12) l0_12 t1676 t1678 t1679 _ _ _ (HM.focus [1, 2, 3, 4, 5, 6, 7, 8, 9, 10] [0]) A27.out) ?_; rintro e w28 ⟨rfl, hR⟩; refine ⟨_, rfl, ?_⟩; replace HM := nzM hR.unfocus; clear hR))
 go_ret
 exact ⟨ER, (MD HM).pick [1, 2, 3, 4, 5, 6, 7, 8, 9, 10]⟩
def laws_heldReplyS.l0 : Nat → List (S150) → Int → Int → Option (Int)
 | 0, _, _, _ => none
 | k + 1, x0, x1, x5 => if x5 < (x0.length : Int) then (if 0 ≤ x5 then (if (((rd_T150 x0 x5).f0) != ((Int.tmod x1 3) == 0)) = true then (none) else ((laws_markText.f k (wrap64 (x1 + 1))).bind fun t1864 => (if ((rd_T150 x0 x5).f1).toList = t1864.toList then ((laws_markText.f k (wrap64 ((wrap64 (x1 + 1)) + 1))).bind fun t1866 => (if ((rd_T150 x0 x5).f2).toList = t1866.toList then (laws_heldReplyS.l0 k x0 (wrap64 ((wrap64 ((wrap64 (x1 + 1)) + 1)) + 1)) (wrap64 (x5 + 1))) else (none))) else (none)))) else (none)) else (some x1)
def laws_heldReplyS.f (k : Nat) (l0 : List (S150)) (a1 : Int) : Option (Int) := laws_heldReplyS.l0 k l0 a1 0
def laws_heldReplyS.T7 : Bool × List (List Nat × List Nat) := (true, [([], []), ([], []), ([0, 1], [0, 1]), ([2], [2]), ([3], [3]), ([], []), ([5], [5]), ([4, 6], [4, 6])])
def laws_heldReplyS.B7 : List Nat := [0, 0, 3, 7, 15, 0, 32, 127]
theorem laws_heldReplyS.tab7 : rtab .any (opsOf Try.f41 7) = laws_heldReplyS.T7 := by kernel_rfl
theorem laws_heldReplyS.bits7 : waitsOk laws_heldReplyS.T7.2 laws_heldReplyS.B7 = true := by kernel_rfl
def laws_heldReplyS.T10 : Bool × List (List Nat × List Nat) := (true, [([], []), ([], []), ([0, 1], [0, 1]), ([2], [2]), ([3], [3]), ([], []), ([5], [5]), ([4, 6], [4, 6])])
def laws_heldReplyS.B10 : List Nat := [0, 0, 3, 7, 15, 0, 32, 127]
theorem laws_heldReplyS.tab10 : rtab .any (opsOf Try.f41 10) = laws_heldReplyS.T10 := by kernel_rfl
theorem laws_heldReplyS.bits10 : waitsOk laws_heldReplyS.T10.2 laws_heldReplyS.B10 = true := by kernel_rfl
theorem laws_heldReplyS.calls (k : Nat) (A0 : Option Addr) (c0 : Nat) (l0 : List (S150)) (a1 : Int) (r : Int) (w : World) (hr0 : Kd.C k150 w A0 l0.length l0) (hc0 : l0.length ≤ c0) (h : laws_heldReplyS.f k l0 a1 = some r) :
  Calls Try.prog 41 #[.slice A0 l0.length c0, .int .i64 a1] w fun e w' => e = .returned (.int .i64 r) ∧ Mem w [] w' [] := by
 have HR0 := Aside0.mk hr0
 have HC0 := Aside0.mk hc0
 clear hr0 hc0
 have HM := Mem.nil w
 have H := h
 clear h
 unfold laws_heldReplyS.f at H
 go_enter Try.func41, Try.ntmps41
 have H' := Aside0.mk H
 clear H
 go_wp2
 go_loopg [1, 5] k (fun kq v1 v5 w' => ∃ (x1_1 : Int) (x5_1 : Int), v1 = .int .i64 x1_1 ∧ v5 = .int .i64 x5_1 ∧ Aside0 (laws_heldReplyS.l0 kq l0 x1_1 x5_1 = some r) ∧ Aside0 (kq ≤ k) ∧ Mem w [] w' [])
 case atStart => exact ⟨(a1), (0), RS, RS, H', ⟨Nat.le_refl _⟩, (MD HM).pick []⟩
 case round =>
  clear H' HM
  obtain ⟨x1_1, x5_1, rfl, rfl, HA, HK1, HM⟩ := hrel
  cases gk with
  | zero => exact absurd HA.out (by simp [laws_heldReplyS.l0])
  | succ k1 =>
   have H := HA.out
   clear HA
   simp only [laws_heldReplyS.l0] at H
   go_upto_if 9 with (fail)
   replace H := IT H; rcases H with ⟨c3, H⟩ | ⟨c3, H⟩
   ·have c3b0 := decide_eq_true c3
    clear c3
    first|rw [c3b0]|(simp only [i64_w, i32_w]; rw [c3b0])|skip
    replace H := GD H; obtain ⟨c4, H⟩ := H
    have c4b0 := decide_eq_true c4
    clear c4
    replace H := GN H; obtain ⟨c5, H⟩ := H
    have c5b0 : (((rd_T150 l0 x5_1).f0) != ((Int.tmod x1_1 3) == 0)) = false := by simpa using c5
    (try (have c5b1 : decide (((rd_T150 l0 x5_1).f0) = ((Int.tmod x1_1 3) == 0)) = true := by simpa using c5))
    (try (have c5b2 : (((rd_T150 l0 x5_1).f0) == ((Int.tmod x1_1 3) == 0)) = true := by simpa using c5))
    have c5b8 := c5
    try simp at c5b8
    clear c5
    have p1862 : 0 ≤ (x5_1 : Int) := of_decide_eq_true AS
    have q1862 : (x5_1 : Int) < (l0.length : Int) := of_decide_eq_true AS
    obtain ⟨ad1862, e1862, hx1862_0, hx1862_1, hx1862_2⟩ := at_T150 (HM.came HR0.out) x5_1 p1862 q1862
    cases e1862
    replace p1862 := eq_true p1862
    replace q1862 := eq_true q1862
    try go_wp2
    replace H := BN H; obtain ⟨t1864, A6, H⟩ := H
    have p1863 : 0 ≤ (x5_1 : Int) := of_decide_eq_true AS
    have q1863 : (x5_1 : Int) < (l0.length : Int) := of_decide_eq_true AS
    obtain ⟨ad1863, e1863, hx1863_0, hx1863_1, hx1863_2⟩ := at_T150 (HM.came HR0.out) x5_1 p1863 q1863
    obtain rfl := Option.some.inj e1863
    replace p1863 := eq_true p1863
    replace q1863 := eq_true q1863
    refine RGN 8 [0, 1, 2, 3, 4, 5, 6, 7] (fun a0 b a w' => a = putSel a0 b [(0, 23, .slice (some ad1862) l0.length c0), (1, 24, .int .i64 x5_1), (2, 25, .pointer (some (ad1862.add ((x5_1).toNat * 3)))), (3, 26, .pointer (some ⟨(ad1862.add ((x5_1).toNat * 3)).block, (ad1862.add ((x5_1).toNat * 3)).off + 1, none⟩)), (4, 27, .string ((rd_T150 l0 x5_1).f1)), (5, 28, .int .i64 (wrap64 (x1_1 + 1))), (6, 29, .string t1864), (7, 30, .bool (((rd_T150 l0 x5_1).f1).toList != t1864.toList))] ∧ Mem w [] w' []) laws_heldReplyS.tab7 laws_heldReplyS.bits7 ?_ ?_ ?_
    ·exact ⟨PS0' rfl _, (HM.drew).pick []⟩
    ·clear HM
     refine SY ?_ ?_
     ·intro b a w ha HM hb hon hoff K hK
      have e0 := PG ha 0
      exact VL (.slice (some ad1862) l0.length c0) (hK.out _ _ ⟨PUT ha 0 hb, HM⟩)
     refine SY ?_ ?_
     ·intro b a w ha HM hb hon hoff K hK
      have e5 := PG ha 5
      exact VL (.int .i64 x5_1) (hK.out _ _ ⟨PUT ha 1 hb, HM⟩)
     refine SY ?_ ?_
     ·intro b a w ha HM hb hon hoff K hK
      have p1863 : 0 ≤ (x5_1 : Int) := of_decide_eq_true AS
      have q1863 : (x5_1 : Int) < (l0.length : Int) := of_decide_eq_true AS
      obtain ⟨ad1863, e1863, hx1863_0, hx1863_1, hx1863_2⟩ := at_T150 (HM.came HR0.out) x5_1 p1863 q1863
      obtain rfl := Option.some.inj e1863
      replace p1863 := eq_true p1863
      replace q1863 := eq_true q1863
      have e23 := PE ha 0 hon
      have e24 := PE ha 1 hon
      exact VL (.pointer (some (ad1862.add ((x5_1).toNat * 3)))) (hK.out _ _ ⟨PUT ha 2 hb, HM⟩)
     refine SY ?_ ?_
     ·intro b a w ha HM hb hon hoff K hK
      have e25 := PE ha 2 hon
      exact VL (.pointer (some ⟨(ad1862.add ((x5_1).toNat * 3)).block, (ad1862.add ((x5_1).toNat * 3)).off + 1, none⟩)) (hK.out _ _ ⟨PUT ha 3 hb, HM⟩)
     refine SY ?_ ?_
     ·intro b a w ha HM hb hon hoff K hK
      have p1863 : 0 ≤ (x5_1 : Int) := of_decide_eq_true AS
      have q1863 : (x5_1 : Int) < (l0.length : Int) := of_decide_eq_true AS
      obtain ⟨ad1863, e1863, hx1863_0, hx1863_1, hx1863_2⟩ := at_T150 (HM.came HR0.out) x5_1 p1863 q1863
      obtain rfl := Option.some.inj e1863
      replace p1863 := eq_true p1863
      replace q1863 := eq_true q1863
      have e26 := PE ha 3 hon
      exact VL (.string ((rd_T150 l0 x5_1).f1)) (hK.out _ _ ⟨PUT ha 4 hb, HM⟩)
     refine SY ?_ ?_
     ·intro b a w ha HM hb hon hoff K hK
      have e1 := PG ha 1
      exact VL (.int .i64 (wrap64 (x1_1 + 1))) (hK.out _ _ ⟨PUT ha 5 hb, HM⟩)
     refine SY ?_ ?_
     ·intro b a w ha HM hb hon hoff K hK
      have e28 := PE ha 5 hon
      refine ST (eC (some 29) rfl #[.int .i64 (wrap64 (x1_1 + 1))] rfl Try.func54 (laws_markText.calls k1 (wrap64 (x1_1 + 1)) t1864 _ A6.out) ?_ (hargs := by (simp only [List.map_toArray, List.map_cons, List.map_nil, evc, eval_of e28]) <;> rfl))
      rintro e w8 ⟨rfl, hR⟩
      refine ⟨_, rfl, ?_⟩
      replace HM := HM.call hR
      clear hR
      exact hK.out _ _ ⟨PUT ha 6 hb, (HM).pick []⟩
     refine SY ?_ ?_
     ·intro b a w ha HM hb hon hoff K hK
      have e27 := PE ha 4 hon
      have e29 := PE ha 6 hon
      exact VL (.bool (((rd_T150 l0 x5_1).f1).toList != t1864.toList)) (hK.out _ _ ⟨PUT ha 7 hb, HM⟩)
     exact steps_nil
    rintro _ w9 ⟨rfl, HM⟩
    simp only [putSel, if_true, Act.put, List.setIfInBounds_toArray, List.set_cons_zero, List.set_cons_succ, gt_iff_lt, ge_iff_le]
    replace H := GD H; obtain ⟨c10, H⟩ := H
    obtain ⟨c10b0, c10b1⟩ := BE c10
    clear c10
    (first | rw [c10b0] | rw [c10b1] | skip)
    try go_wp2
    replace H := BN H; obtain ⟨t1866, A11, H⟩ := H
    have p1865 : 0 ≤ (x5_1 : Int) := of_decide_eq_true AS
    have q1865 : (x5_1 : Int) < (l0.length : Int) := of_decide_eq_true AS
    obtain ⟨ad1865, e1865, hx1865_0, hx1865_1, hx1865_2⟩ := at_T150 (HM.came HR0.out) x5_1 p1865 q1865
    obtain rfl := Option.some.inj e1865
    replace p1865 := eq_true p1865
    replace q1865 := eq_true q1865
    refine RGN 8 [0, 1, 2, 3, 4, 5, 6, 7] (fun a0 b a w' => a = putSel a0 b [(0, 33, .slice (some ad1862) l0.length c0), (1, 34, .int .i64 x5_1), (2, 35, .pointer (some (ad1862.add ((x5_1).toNat * 3)))), (3, 36, .pointer (some ⟨(ad1862.add ((x5_1).toNat * 3)).block, (ad1862.add ((x5_1).toNat * 3)).off + 2, none⟩)), (4, 37, .string ((rd_T150 l0 x5_1).f2)), (5, 38, .int .i64 (wrap64 ((wrap64 (x1_1 + 1)) + 1))), (6, 39, .string t1866), (7, 40, .bool (((rd_T150 l0 x5_1).f2).toList != t1866.toList))] ∧ Mem w [] w' []) laws_heldReplyS.tab10 laws_heldReplyS.bits10 ?_ ?_ ?_
    ·exact ⟨PS0' rfl _, (HM.drew).pick []⟩
    ·clear HM
     refine SY ?_ ?_
     ·intro b a w ha HM hb hon hoff K hK
      have e0 := PG ha 0
      exact VL (.slice (some ad1862) l0.length c0) (hK.out _ _ ⟨PUT ha 0 hb, HM⟩)
     refine SY ?_ ?_
     ·intro b a w ha HM hb hon hoff K hK
      have e5 := PG ha 5
      exact VL (.int .i64 x5_1) (hK.out _ _ ⟨PUT ha 1 hb, HM⟩)
     refine SY ?_ ?_
     ·intro b a w ha HM hb hon hoff K hK
      have p1865 : 0 ≤ (x5_1 : Int) := of_decide_eq_true AS
      have q1865 : (x5_1 : Int) < (l0.length : Int) := of_decide_eq_true AS
      obtain ⟨ad1865, e1865, hx1865_0, hx1865_1, hx1865_2⟩ := at_T150 (HM.came HR0.out) x5_1 p1865 q1865
      obtain rfl := Option.some.inj e1865
      replace p1865 := eq_true p1865
      replace q1865 := eq_true q1865
      have e33 := PE ha 0 hon
      have e34 := PE ha 1 hon
      exact VL (.pointer (some (ad1862.add ((x5_1).toNat * 3)))) (hK.out _ _ ⟨PUT ha 2 hb, HM⟩)
     refine SY ?_ ?_
     ·intro b a w ha HM hb hon hoff K hK
      have e35 := PE ha 2 hon
      exact VL (.pointer (some ⟨(ad1862.add ((x5_1).toNat * 3)).block, (ad1862.add ((x5_1).toNat * 3)).off + 2, none⟩)) (hK.out _ _ ⟨PUT ha 3 hb, HM⟩)
     refine SY ?_ ?_
     ·intro b a w ha HM hb hon hoff K hK
      have p1865 : 0 ≤ (x5_1 : Int) := of_decide_eq_true AS
      have q1865 : (x5_1 : Int) < (l0.length : Int) := of_decide_eq_true AS
      obtain ⟨ad1865, e1865, hx1865_0, hx1865_1, hx1865_2⟩ := at_T150 (HM.came HR0.out) x5_1 p1865 q1865
      obtain rfl := Option.some.inj e1865
      replace p1865 := eq_true p1865
      replace q1865 := eq_true q1865
      have e36 := PE ha 3 hon
      exact VL (.string ((rd_T150 l0 x5_1).f2)) (hK.out _ _ ⟨PUT ha 4 hb, HM⟩)
     refine SY ?_ ?_
     ·intro b a w ha HM hb hon hoff K hK
      have e1 := PG ha 1
      exact VL (.int .i64 (wrap64 ((wrap64 (x1_1 + 1)) + 1))) (hK.out _ _ ⟨PUT ha 5 hb, HM⟩)
     refine SY ?_ ?_
     ·intro b a w ha HM hb hon hoff K hK
      have e38 := PE ha 5 hon
      refine ST (eC (some 39) rfl #[.int .i64 (wrap64 ((wrap64 (x1_1 + 1)) + 1))] rfl Try.func54 (laws_markText.calls k1 (wrap64 ((wrap64 (x1_1 + 1)) + 1)) t1866 _ A11.out) ?_ (hargs := by (simp only [List.map_toArray, List.map_cons, List.map_nil, evc, eval_of e38]) <;> rfl))
      rintro e w13 ⟨rfl, hR⟩
      refine ⟨_, rfl, ?_⟩
      replace HM := HM.call hR
      clear hR
      exact hK.out _ _ ⟨PUT ha 6 hb, (HM).pick []⟩
     refine SY ?_ ?_
     ·intro b a w ha HM hb hon hoff K hK
      have e37 := PE ha 4 hon
      have e39 := PE ha 6 hon
      exact VL (.bool (((rd_T150 l0 x5_1).f2).toList != t1866.toList)) (hK.out _ _ ⟨PUT ha 7 hb, HM⟩)
     exact steps_nil
    rintro _ w14 ⟨rfl, HM⟩
    simp only [putSel, if_true, Act.put, List.setIfInBounds_toArray, List.set_cons_zero, List.set_cons_succ, gt_iff_lt, ge_iff_le]
    replace H := GD H; obtain ⟨c15, H⟩ := H
    obtain ⟨c15b0, c15b1⟩ := BE c15
    clear c15
    (first | rw [c15b0] | rw [c15b1] | skip)
    have H' := Aside0.mk H
    clear H
    go_wp2
    go_roundg k1
    case measure => have := HK1.out; omega
    case rel => exact ⟨(wrap64 ((wrap64 ((wrap64 (x1_1 + 1)) + 1)) + 1)), (wrap64 (x5_1 + 1)), RS, RS, H', ⟨by have := HK1.out; omega⟩, (MD HM).pick []⟩
   ·have c3b0 := decide_eq_false c3
    clear c3
    first|rw [c3b0]|(simp only [i64_w, i32_w]; rw [c3b0])|skip
    obtain rfl := Option.some.inj H
    go_wp2
    go_ret
    exact ⟨ER, (MD HM).pick []⟩
def laws_FnExactRepliesOf.j0 : Nat → Int → List (S150) → List (S150) → Bool → Int → Int → List (S220) → List (S220) → List Int → List Int → Int → List Int → List (S244) → List Int → List (S184) → List (S155) → List (S193) → Option (Bool)
 | 0, _, _, _, _, _, _, _, _, _, _, _, _, _, _, _, _, _ => none
 | k + 1, x1, x6, x8, x46, x1868000, x1868001, x1868002, x1868003, x1868004, x1868005, x1868006, x1868007, x1868008, x1868009, x1868010, x1868011, x1868012 => if x46 = true then (none) else ((laws_markReplyS.f k x8 1).bind fun bt1989 => ((laws_heldReplyS.f k bt1989.2 1).bind fun t1991 => (if t1991 < 0 then (none) else (if t1991 = bt1989.1 then ((laws_toDesk.f k x1868000 x1868001 x1868002 x1868003 x1868004 x1868005 x1868006 x1868007 x1868008 x1868009 x1868010 x1868011 x1868012).bind fun bt1992 => ((impl_RepliesOf.f bt1992.1 bt1992.2.1 bt1992.2.2.1 bt1992.2.2.2.1 bt1992.2.2.2.2.1 bt1992.2.2.2.2.2.1 bt1992.2.2.2.2.2.2.1 bt1992.2.2.2.2.2.2.2.1 bt1992.2.2.2.2.2.2.2.2.1 bt1992.2.2.2.2.2.2.2.2.2.1 bt1992.2.2.2.2.2.2.2.2.2.2.1 bt1992.2.2.2.2.2.2.2.2.2.2.2.1 bt1992.2.2.2.2.2.2.2.2.2.2.2.2 x1).bind fun t2025 => ((laws_eqReplyS.f k t2025 x6).bind fun t2028 => (if t2028 = true then ((laws_heldReplyS.f k bt1989.2 1).bind fun t2029 => (if t2029 < 0 then (none) else (if t2029 = bt1989.1 then (some true) else (none)))) else (none))))) else (none)))))
def laws_FnExactRepliesOf.f (k : Nat) (a0_0 : Int) (a0_1 : Int) (l0_2 : List (S220)) (l0_3 : List (S220)) (l0_4 : List Int) (l0_5 : List Int) (a0_6 : Int) (l0_7 : List Int) (l0_8 : List (S244)) (l0_9 : List Int) (l0_10 : List (S184)) (l0_11 : List (S155)) (l0_12 : List (S193)) (a1 : Int) : Option (Bool) := (laws_szDesk.f k a0_0 a0_1 l0_2 l0_3 l0_4 l0_5 a0_6 l0_7 l0_8 l0_9 l0_10 l0_11 l0_12 1048576).bind fun t1868 => (if t1868 < 0 then (some true) else ((laws_toDesk.f k a0_0 a0_1 l0_2 l0_3 l0_4 l0_5 a0_6 l0_7 l0_8 l0_9 l0_10 l0_11 l0_12).bind fun bt1869 => ((spec_RepliesOf.f bt1869.1 bt1869.2.1 bt1869.2.2.1 bt1869.2.2.2.1 bt1869.2.2.2.2.1 bt1869.2.2.2.2.2.1 bt1869.2.2.2.2.2.2.1 bt1869.2.2.2.2.2.2.2.1 bt1869.2.2.2.2.2.2.2.2.1 bt1869.2.2.2.2.2.2.2.2.2.1 bt1869.2.2.2.2.2.2.2.2.2.2.1 bt1869.2.2.2.2.2.2.2.2.2.2.2.1 bt1869.2.2.2.2.2.2.2.2.2.2.2.2 a1).bind fun t1902 => ((laws_toDesk.f k a0_0 a0_1 l0_2 l0_3 l0_4 l0_5 a0_6 l0_7 l0_8 l0_9 l0_10 l0_11 l0_12).bind fun bt1905 => ((impl_RepliesOf.f bt1905.1 bt1905.2.1 bt1905.2.2.1 bt1905.2.2.2.1 bt1905.2.2.2.2.1 bt1905.2.2.2.2.2.1 bt1905.2.2.2.2.2.2.1 bt1905.2.2.2.2.2.2.2.1 bt1905.2.2.2.2.2.2.2.2.1 bt1905.2.2.2.2.2.2.2.2.2.1 bt1905.2.2.2.2.2.2.2.2.2.2.1 bt1905.2.2.2.2.2.2.2.2.2.2.2.1 bt1905.2.2.2.2.2.2.2.2.2.2.2.2 a1).bind fun t1939 => ((laws_eqReplyS.f k t1939 t1902).bind fun t1942 => (if t1942 = true then ((laws_toDesk.f k a0_0 a0_1 l0_2 l0_3 l0_4 l0_5 a0_6 l0_7 l0_8 l0_9 l0_10 l0_11 l0_12).bind fun bt1943 => ((laws_eqDesk.f k bt1905.1 bt1905.2.1 bt1905.2.2.1 bt1905.2.2.2.1 bt1905.2.2.2.2.1 bt1905.2.2.2.2.2.1 bt1905.2.2.2.2.2.2.1 bt1905.2.2.2.2.2.2.2.1 bt1905.2.2.2.2.2.2.2.2.1 bt1905.2.2.2.2.2.2.2.2.2.1 bt1905.2.2.2.2.2.2.2.2.2.2.1 bt1905.2.2.2.2.2.2.2.2.2.2.2.1 bt1905.2.2.2.2.2.2.2.2.2.2.2.2 bt1943.1 bt1943.2.1 bt1943.2.2.1 bt1943.2.2.2.1 bt1943.2.2.2.2.1 bt1943.2.2.2.2.2.1 bt1943.2.2.2.2.2.2.1 bt1943.2.2.2.2.2.2.2.1 bt1943.2.2.2.2.2.2.2.2.1 bt1943.2.2.2.2.2.2.2.2.2.1 bt1943.2.2.2.2.2.2.2.2.2.2.1 bt1943.2.2.2.2.2.2.2.2.2.2.2.1 bt1943.2.2.2.2.2.2.2.2.2.2.2.2).bind fun t1976 => (if t1976 = true then ((laws_markDesk.f k bt1905.1 bt1905.2.1 bt1905.2.2.1 bt1905.2.2.2.1 bt1905.2.2.2.2.1 bt1905.2.2.2.2.2.1 bt1905.2.2.2.2.2.2.1 bt1905.2.2.2.2.2.2.2.1 bt1905.2.2.2.2.2.2.2.2.1 bt1905.2.2.2.2.2.2.2.2.2.1 bt1905.2.2.2.2.2.2.2.2.2.2.1 bt1905.2.2.2.2.2.2.2.2.2.2.2.1 bt1905.2.2.2.2.2.2.2.2.2.2.2.2 1).bind fun bt1977 => (if bt1977.1 < 0 then (laws_FnExactRepliesOf.j0 k a1 t1902 t1939 true a0_0 a0_1 l0_2 l0_3 l0_4 l0_5 a0_6 l0_7 l0_8 l0_9 l0_10 l0_11 l0_12) else ((laws_eqReplyS.f k t1939 t1902).bind fun t1988 => (laws_FnExactRepliesOf.j0 k a1 t1902 t1939 (!t1988) a0_0 a0_1 l0_2 l0_3 l0_4 l0_5 a0_6 l0_7 l0_8 l0_9 l0_10 l0_11 l0_12)))) else (none)))) else (none))))))))
def laws_FnExactRepliesOf.T10 : Bool × List (List Nat × List Nat) := (true, [([], []), ([], []), ([1], [1]), ([0, 2, 2], [0, 2]), ([3], [3])])
def laws_FnExactRepliesOf.B10 : List Nat := [0, 0, 2, 7, 15]
theorem laws_FnExactRepliesOf.tab10 : rtab .any (opsOf Try.f6 10) = laws_FnExactRepliesOf.T10 := by kernel_rfl
theorem laws_FnExactRepliesOf.bits10 : waitsOk laws_FnExactRepliesOf.T10.2 laws_FnExactRepliesOf.B10 = true := by kernel_rfl
theorem laws_FnExactRepliesOf.calls (k : Nat) (a0_0 : Int) (a0_1 : Int) (A0_2 : Option Addr) (c0_2 : Nat) (l0_2 : List (S220)) (A0_3 : Option Addr) (c0_3 : Nat) (l0_3 : List (S220)) (A0_4 : Option Addr) (c0_4 : Nat) (l0_4 : List Int) (A0_5 : Option Addr) (c0_5 : Nat) (l0_5 : List Int) (a0_6 : Int) (A0_7 : Option Addr) (c0_7 : Nat) (l0_7 : List Int) (A0_8 : Option Addr) (c0_8 : Nat) (l0_8 : List (S244)) (A0_9 : Option Addr) (c0_9 : Nat) (l0_9 : List Int) (A0_10 : Option Addr) (c0_10 : Nat) (l0_10 : List (S184)) (A0_11 : Option Addr) (c0_11 : Nat) (l0_11 : List (S155)) (A0_12 : Option Addr) (c0_12 : Nat) (l0_12 : List (S193)) (a1 : Int) (r : Bool) (w : World) (hr0_2 : Kd.C k220 w A0_2 l0_2.length l0_2) (hc0_2 : l0_2.length ≤ c0_2) (hr0_3 : Kd.C k220 w A0_3 l0_3.length l0_3) (hc0_3 : l0_3.length ≤ c0_3) (hr0_4 : Kd.C (Kd.int .i64) w A0_4 l0_4.length l0_4) (hc0_4 : l0_4.length ≤ c0_4) (hr0_5 : Kd.C (Kd.int .i64) w A0_5 l0_5.length l0_5) (hc0_5 : l0_5.length ≤ c0_5) (hr0_7 : Kd.C (Kd.int .i64) w A0_7 l0_7.length l0_7) (hc0_7 : l0_7.length ≤ c0_7) (hr0_8 : Kd.C k244 w A0_8 l0_8.length l0_8) (hc0_8 : l0_8.length ≤ c0_8) (hr0_9 : Kd.C (Kd.int .i64) w A0_9 l0_9.length l0_9) (hc0_9 : l0_9.length ≤ c0_9) (hr0_10 : Kd.C k184 w A0_10 l0_10.length l0_10) (hc0_10 : l0_10.length ≤ c0_10) (hr0_11 : Kd.C k155 w A0_11 l0_11.length l0_11) (hc0_11 : l0_11.length ≤ c0_11) (hr0_12 : Kd.C k193 w A0_12 l0_12.length l0_12) (hc0_12 : l0_12.length ≤ c0_12) (h : laws_FnExactRepliesOf.f k a0_0 a0_1 l0_2 l0_3 l0_4 l0_5 a0_6 l0_7 l0_8 l0_9 l0_10 l0_11 l0_12 a1 = some r) :
  Calls Try.prog 6 #[.agg #[.int .i64 a0_0, .int .i64 a0_1, .slice A0_2 l0_2.length c0_2, .slice A0_3 l0_3.length c0_3, .slice A0_4 l0_4.length c0_4, .slice A0_5 l0_5.length c0_5, .int .i64 a0_6, .slice A0_7 l0_7.length c0_7, .slice A0_8 l0_8.length c0_8, .slice A0_9 l0_9.length c0_9, .slice A0_10 l0_10.length c0_10, .slice A0_11 l0_11.length c0_11, .slice A0_12 l0_12.length c0_12], .int .i64 a1] w fun e w' => e = .returned (.bool r) ∧ Below w.heap.size w w' := by
 have hu70 := Try.underlying70
 have hu82 := Try.underlying82
 have HR0_2 := Aside0.mk hr0_2
 have HC0_2 := Aside0.mk hc0_2
 clear hr0_2 hc0_2
 have HR0_3 := Aside0.mk hr0_3
 have HC0_3 := Aside0.mk hc0_3
 clear hr0_3 hc0_3
 have HR0_4 := Aside0.mk hr0_4
 have HC0_4 := Aside0.mk hc0_4
 clear hr0_4 hc0_4
 have HR0_5 := Aside0.mk hr0_5
 have HC0_5 := Aside0.mk hc0_5
 clear hr0_5 hc0_5
 have HR0_7 := Aside0.mk hr0_7
 have HC0_7 := Aside0.mk hc0_7
 clear hr0_7 hc0_7
 have HR0_8 := Aside0.mk hr0_8
 have HC0_8 := Aside0.mk hc0_8
 clear hr0_8 hc0_8
 have HR0_9 := Aside0.mk hr0_9
 have HC0_9 := Aside0.mk hc0_9
 clear hr0_9 hc0_9
 have HR0_10 := Aside0.mk hr0_10
 have HC0_10 := Aside0.mk hc0_10
 clear hr0_10 hc0_10
 have HR0_11 := Aside0.mk hr0_11
 have HC0_11 := Aside0.mk hc0_11
 clear hr0_11 hc0_11
 have HR0_12 := Aside0.mk hr0_12
 have HC0_12 := Aside0.mk hc0_12
 clear hr0_12 hc0_12
 have HM := Mem.nil w
 have H := h
 clear h
 unfold laws_FnExactRepliesOf.f at H
 go_enter Try.func6, Try.ntmps6
 replace H := BN H; obtain ⟨t1868, A5, H⟩ := H
 go_upto_if 17 with (first | ((with_reducible refine gN 2 rfl ?_); refine pB 2 70 [.int .i64 a0_0, .int .i64 a0_1, .slice A0_2 l0_2.length c0_2, .slice A0_3 l0_3.length c0_3, .slice A0_4 l0_4.length c0_4, .slice A0_5 l0_5.length c0_5, .int .i64 a0_6, .slice A0_7 l0_7.length c0_7, .slice A0_8 l0_8.length c0_8, .slice A0_9 l0_9.length c0_9, .slice A0_10 l0_10.length c0_10, .slice A0_11 l0_11.length c0_11, .slice A0_12 l0_12.length c0_12] HM rfl ?_; clear HM; intro gb1867 w3 HM; obtain ⟨_,_,_,_,_,_,_,_,_,_,_,_,_,_,_,_,_,_,_,_,_,_,_,_,_,_⟩ := bk13 (HM.bx 0 rfl)) | ((with_reducible refine gC 28 rfl ?_); refine pC (some 15) rfl #[.agg #[.int .i64 a0_0, .int .i64 a0_1, .slice A0_2 l0_2.length c0_2, .slice A0_3 l0_3.length c0_3, .slice A0_4 l0_4.length c0_4, .slice A0_5 l0_5.length c0_5, .int .i64 a0_6, .slice A0_7 l0_7.length c0_7, .slice A0_8 l0_8.length c0_8, .slice A0_9 l0_9.length c0_9, .slice A0_10 l0_10.length c0_10, .slice A0_11 l0_11.length c0_11, .slice A0_12 l0_12.length c0_12], .int .i64 1048576] rfl Try.func28 (laws_szDesk.calls k a0_0 a0_1 _ _ l0_2 _ _ l0_3 _ _ l0_4 _ _ l0_5 a0_6 _ _ l0_7 _ _ l0_8 _ _ l0_9 _ _ l0_10 _ _ l0_11 _ _ l0_12 1048576 t1868 _ (HM.came HR0_2.out) HC0_2.out (HM.came HR0_3.out) HC0_3.out (HM.came HR0_4.out) HC0_4.out (HM.came HR0_5.out) HC0_5.out (HM.came HR0_7.out) HC0_7.out (HM.came HR0_8.out) HC0_8.out (HM.came HR0_9.out) HC0_9.out (HM.came HR0_10.out) HC0_10.out (HM.came HR0_11.out) HC0_11.out (HM.came HR0_12.out) HC0_12.out A5.out) ?_; rintro e w6 ⟨rfl, hR⟩; refine ⟨_, rfl, ?_⟩; replace HM := HM.call hR; clear hR))
 replace HM := nzM HM
 replace H := IT H; rcases H with ⟨c7, H⟩ | ⟨c7, H⟩
 ·have c7b0 := decide_eq_true c7
  clear c7
  first|rw [c7b0]|(simp only [i64_w, i32_w]; rw [c7b0])|skip
  obtain rfl := Option.some.inj H
  go_wp2
  go_ret
  exact ⟨ER, HM.bel⟩
 ·have c7b0 := decide_eq_false c7
  clear c7
  first|rw [c7b0]|(simp only [i64_w, i32_w]; rw [c7b0])|skip
  replace H := BN H; obtain ⟨⟨t1869, t1870, t1871, t1874, t1877, t1880, t1883, t1884, t1887, t1890, t1893, t1896, t1899⟩, A9, H⟩ := H
  replace H := BN H; obtain ⟨t1902, A11, H⟩ := H
  replace H := BN H; obtain ⟨⟨t1905, t1906, t1907, t1910, t1913, t1916, t1919, t1920, t1923, t1926, t1929, t1932, t1935⟩, A24, H⟩ := H
  replace H := BN H; obtain ⟨t1939, A39, H⟩ := H
  replace H := BN H; obtain ⟨t1942, A41, H⟩ := H
  replace H := GD H
  obtain ⟨c45, H⟩ := H
  subst c45
  obtain ⟨_,_,_,_,_,_,_,_,_,_,_,_,_,_,_,_,_,_,_,_,_,_,_,_,_,_⟩ := bk13 (HM.bx 0 rfl)
  try go_wp2_with (first | ((with_reducible refine gC 30 rfl ?_); refine pC (some 19) rfl #[.agg #[.int .i64 a0_0, .int .i64 a0_1, .slice A0_2 l0_2.length c0_2, .slice A0_3 l0_3.length c0_3, .slice A0_4 l0_4.length c0_4, .slice A0_5 l0_5.length c0_5, .int .i64 a0_6, .slice A0_7 l0_7.length c0_7, .slice A0_8 l0_8.length c0_8, .slice A0_9 l0_9.length c0_9, .slice A0_10 l0_10.length c0_10, .slice A0_11 l0_11.length c0_11, .slice A0_12 l0_12.length c0_12]] rfl Try.func30 (laws_toDesk.calls k a0_0 a0_1 _ _ l0_2 _ _ l0_3 _ _ l0_4 _ _ l0_5 a0_6 _ _ l0_7 _ _ l0_8 _ _ l0_9 _ _ l0_10 _ _ l0_11 _ _ l0_12 t1869 t1870 t1871 t1874 t1877 t1880 t1883 t1884 t1887 t1890 t1893 t1896 t1899 _ (HM.came HR0_2.out) HC0_2.out (HM.came HR0_3.out) HC0_3.out (HM.came HR0_4.out) HC0_4.out (HM.came HR0_5.out) HC0_5.out (HM.came HR0_7.out) HC0_7.out (HM.came HR0_8.out) HC0_8.out (HM.came HR0_9.out) HC0_9.out (HM.came HR0_10.out) HC0_10.out (HM.came HR0_11.out) HC0_11.out (HM.came HR0_12.out) HC0_12.out A9.out) ?_; rintro e w10 ⟨v1872, v1875, v1878, v1881, v1885, v1888, v1891, v1894, v1897, v1900, rfl, hR⟩; refine ⟨_, rfl, ?_⟩; replace HM := HM.call hR; clear hR; obtain ⟨Xo13, ko13, rfl⟩ := HM.rdR 1 rfl; obtain ⟨Xo14, ko14, rfl⟩ := HM.rdR 2 rfl; obtain ⟨Xo15, ko15, rfl⟩ := HM.rdR 3 rfl; obtain ⟨Xo16, ko16, rfl⟩ := HM.rdR 4 rfl; obtain ⟨Xo17, ko17, rfl⟩ := HM.rdR 5 rfl; obtain ⟨Xo18, ko18, rfl⟩ := HM.rdR 6 rfl; obtain ⟨Xo19, ko19, rfl⟩ := HM.rdR 7 rfl; obtain ⟨Xo20, ko20, rfl⟩ := HM.rdR 8 rfl; obtain ⟨Xo21, ko21, rfl⟩ := HM.rdRR 9 rfl; obtain ⟨Xo22, ko22, rfl⟩ := HM.rdR 10 rfl) | ((with_reducible refine gC 37 rfl ?_); refine pC (some 21) rfl #[.agg #[.int .i64 t1869, .int .i64 t1870, .slice Xo13 t1871.length ko13, .slice Xo14 t1874.length ko14, .slice Xo15 t1877.length ko15, .slice Xo16 t1880.length ko16, .int .i64 t1883, .slice Xo17 t1884.length ko17, .slice Xo18 t1887.length ko18, .slice Xo19 t1890.length ko19, .slice Xo20 t1893.length ko20, .slice Xo21 t1896.length ko21, .slice Xo22 t1899.length ko22], .int .i64 a1] rfl Try.func37 (spec_RepliesOf.calls t1869 t1870 _ _ t1871 _ _ t1874 _ _ t1877 _ _ t1880 t1883 _ _ t1884 _ _ t1887 _ _ t1890 _ _ t1893 _ _ t1896 _ _ t1899 a1 t1902 _ (HM.CR 1 rfl).2.2 (HM.CR 1 rfl).2.1 (HM.CR 2 rfl).2.2 (HM.CR 2 rfl).2.1 (HM.CR 3 rfl).2.2 (HM.CR 3 rfl).2.1 (HM.CR 4 rfl).2.2 (HM.CR 4 rfl).2.1 (HM.CR 5 rfl).2.2 (HM.CR 5 rfl).2.1 (HM.CR 6 rfl).2.2 (HM.CR 6 rfl).2.1 (HM.CR 7 rfl).2.2 (HM.CR 7 rfl).2.1 (HM.CR 8 rfl).2.2 (HM.CR 8 rfl).2.1 (HM.CRR 9 rfl).2.2 (HM.CRR 9 rfl).2.1 (HM.CR 10 rfl).2.2 (HM.CR 10 rfl).2.1 A11.out) ?_; rintro e w12 ⟨v1903, rfl, hR⟩; refine ⟨_, rfl, ?_⟩; replace HM := HM.call hR; clear hR; obtain ⟨_,_,_,_,_,_,_,_,_,_,_,_,_,_,_,_,_,_,_,_,_,_,_,_,_,_⟩ := bk13 (HM.bx 0 rfl)) | ((with_reducible refine gC 30 rfl ?_); refine pC (some 23) rfl #[.agg #[.int .i64 a0_0, .int .i64 a0_1, .slice A0_2 l0_2.length c0_2, .slice A0_3 l0_3.length c0_3, .slice A0_4 l0_4.length c0_4, .slice A0_5 l0_5.length c0_5, .int .i64 a0_6, .slice A0_7 l0_7.length c0_7, .slice A0_8 l0_8.length c0_8, .slice A0_9 l0_9.length c0_9, .slice A0_10 l0_10.length c0_10, .slice A0_11 l0_11.length c0_11, .slice A0_12 l0_12.length c0_12]] rfl Try.func30 (laws_toDesk.calls k a0_0 a0_1 _ _ l0_2 _ _ l0_3 _ _ l0_4 _ _ l0_5 a0_6 _ _ l0_7 _ _ l0_8 _ _ l0_9 _ _ l0_10 _ _ l0_11 _ _ l0_12 t1905 t1906 t1907 t1910 t1913 t1916 t1919 t1920 t1923 t1926 t1929 t1932 t1935 _ (HM.came HR0_2.out) HC0_2.out (HM.came HR0_3.out) HC0_3.out (HM.came HR0_4.out) HC0_4.out (HM.came HR0_5.out) HC0_5.out (HM.came HR0_7.out) HC0_7.out (HM.came HR0_8.out) HC0_8.out (HM.came HR0_9.out) HC0_9.out (HM.came HR0_10.out) HC0_10.out (HM.came HR0_11.out) HC0_11.out (HM.came HR0_12.out) HC0_12.out A24.out) ?_; rintro e w25 ⟨v1908, v1911, v1914, v1917, v1921, v1924, v1927, v1930, v1933, v1936, rfl, hR⟩; refine ⟨_, rfl, ?_⟩; replace HM := HM.call hR; clear hR) | ((with_reducible refine gN 7 rfl ?_); refine pB 7 82 [.int .i64 0, .int .i64 0, .slice none 0 0, .slice none 0 0, .slice none 0 0, .slice none 0 0, .int .i64 0, .slice none 0 0, .slice none 0 0, .slice none 0 0, .slice none 0 0, .slice none 0 0, .slice none 0 0] HM rfl ?_; clear HM; intro gb1938 w26 HM; obtain ⟨Xo27, ko27, rfl⟩ := HM.rdR 12 rfl; obtain ⟨Xo28, ko28, rfl⟩ := HM.rdR 13 rfl; obtain ⟨Xo29, ko29, rfl⟩ := HM.rdR 14 rfl; obtain ⟨Xo30, ko30, rfl⟩ := HM.rdR 15 rfl; obtain ⟨Xo31, ko31, rfl⟩ := HM.rdR 16 rfl; obtain ⟨Xo32, ko32, rfl⟩ := HM.rdR 17 rfl; obtain ⟨Xo33, ko33, rfl⟩ := HM.rdR 18 rfl; obtain ⟨Xo34, ko34, rfl⟩ := HM.rdR 19 rfl; obtain ⟨Xo35, ko35, rfl⟩ := HM.rdRR 20 rfl; obtain ⟨Xo36, ko36, rfl⟩ := HM.rdR 21 rfl) | ((with_reducible refine gS 7 rfl ?_); refine pS 22 7 0 [.int .i64 t1905, .int .i64 t1906, .slice Xo27 t1907.length ko27, .slice Xo28 t1910.length ko28, .slice Xo29 t1913.length ko29, .slice Xo30 t1916.length ko30, .int .i64 t1919, .slice Xo31 t1920.length ko31, .slice Xo32 t1923.length ko32, .slice Xo33 t1926.length ko33, .slice Xo34 t1929.length ko34, .slice Xo35 t1932.length ko35, .slice Xo36 t1935.length ko36] HM rfl rfl ?_; clear HM; intro w37 HM; obtain ⟨_,_,_,_,_,_,_,_,_,_,_,_,_,_,_,_,_,_,_,_,_,_,_,_,_,_⟩ := bk13 (HM.bx 22 rfl)) | ((with_reducible refine gC 38 rfl ?_); refine pC (some 26) rfl #[.agg #[.int .i64 t1905, .int .i64 t1906, .slice Xo27 t1907.length ko27, .slice Xo28 t1910.length ko28, .slice Xo29 t1913.length ko29, .slice Xo30 t1916.length ko30, .int .i64 t1919, .slice Xo31 t1920.length ko31, .slice Xo32 t1923.length ko32, .slice Xo33 t1926.length ko33, .slice Xo34 t1929.length ko34, .slice Xo35 t1932.length ko35, .slice Xo36 t1935.length ko36], .int .i64 a1] rfl Try.func38 (impl_RepliesOf.calls t1905 t1906 _ _ t1907 _ _ t1910 _ _ t1913 _ _ t1916 t1919 _ _ t1920 _ _ t1923 _ _ t1926 _ _ t1929 _ _ t1932 _ _ t1935 a1 t1939 _ (HM.CR 12 rfl).2.2 (HM.CR 12 rfl).2.1 (HM.CR 13 rfl).2.2 (HM.CR 13 rfl).2.1 (HM.CR 14 rfl).2.2 (HM.CR 14 rfl).2.1 (HM.CR 15 rfl).2.2 (HM.CR 15 rfl).2.1 (HM.CR 16 rfl).2.2 (HM.CR 16 rfl).2.1 (HM.CR 17 rfl).2.2 (HM.CR 17 rfl).2.1 (HM.CR 18 rfl).2.2 (HM.CR 18 rfl).2.1 (HM.CR 19 rfl).2.2 (HM.CR 19 rfl).2.1 (HM.CRR 20 rfl).2.2 (HM.CRR 20 rfl).2.1 (HM.CR 21 rfl).2.2 (HM.CR 21 rfl).2.1 A39.out) ?_; rintro e w40 ⟨v1940, rfl, hR⟩; refine ⟨_, rfl, ?_⟩; replace HM := HM.call hR; clear hR; obtain ⟨Xo43, ko43, rfl⟩ := HM.rdR 23 rfl; obtain ⟨Xo44, ko44, rfl⟩ := HM.rdR 11 rfl) | ((with_reducible refine gC 39 rfl ?_); refine pC (some 29) rfl #[.slice Xo43 t1939.length ko43, .slice Xo44 t1902.length ko44] rfl Try.func39 (laws_eqReplyS.calls k _ _ t1939 _ _ t1902 true _ (HM.CR 23 rfl).2.2 (HM.CR 23 rfl).2.1 (HM.CR 11 rfl).2.2 (HM.CR 11 rfl).2.1 A41.out) ?_; rintro e w42 ⟨rfl, hR⟩; refine ⟨_, rfl, ?_⟩; replace HM := HM.call hR; clear hR))
  replace H := BN H; obtain ⟨⟨t1943, t1944, t1945, t1948, t1951, t1954, t1957, t1958, t1961, t1964, t1967, t1970, t1973⟩, A46, H⟩ := H
  replace H := BN H; obtain ⟨t1976, A47, H⟩ := H
  have HF : Mem w ([] ++ [rowR k122 122 (.slice Xo13 t1871.length ko13) t1871, rowR k122 122 (.slice Xo14 t1874.length ko14) t1874, rowR (Kd.int .i64) 3 (.slice Xo15 t1877.length ko15) t1877, rowR (Kd.int .i64) 3 (.slice Xo16 t1880.length ko16) t1880, rowR (Kd.int .i64) 3 (.slice Xo17 t1884.length ko17) t1884, rowR k242 242 (.slice Xo18 t1887.length ko18) t1887, rowR (Kd.int .i64) 3 (.slice Xo19 t1890.length ko19) t1890, rowR k188 188 (.slice Xo20 t1893.length ko20) t1893, rr x135 135 (.slice Xo21 t1896.length ko21) t1896, rowR k191 191 (.slice Xo22 t1899.length ko22) t1899, rowR k150 150 (.slice Xo44 t1902.length ko44) t1902, rowR k150 150 (.slice Xo43 t1939.length ko43) t1939]) _ [box 70 gb1867 [.int .i64 a0_0, .int .i64 a0_1, .slice A0_2 l0_2.length c0_2, .slice A0_3 l0_3.length c0_3, .slice A0_4 l0_4.length c0_4, .slice A0_5 l0_5.length c0_5, .int .i64 a0_6, .slice A0_7 l0_7.length c0_7, .slice A0_8 l0_8.length c0_8, .slice A0_9 l0_9.length c0_9, .slice A0_10 l0_10.length c0_10, .slice A0_11 l0_11.length c0_11, .slice A0_12 l0_12.length c0_12], rowR k122 122 (.slice Xo27 t1907.length ko27) t1907, rowR k122 122 (.slice Xo28 t1910.length ko28) t1910, rowR (Kd.int .i64) 3 (.slice Xo29 t1913.length ko29) t1913, rowR (Kd.int .i64) 3 (.slice Xo30 t1916.length ko30) t1916, rowR (Kd.int .i64) 3 (.slice Xo31 t1920.length ko31) t1920, rowR k242 242 (.slice Xo32 t1923.length ko32) t1923, rowR (Kd.int .i64) 3 (.slice Xo33 t1926.length ko33) t1926, rowR k188 188 (.slice Xo34 t1929.length ko34) t1929, rr x135 135 (.slice Xo35 t1932.length ko35) t1932, rowR k191 191 (.slice Xo36 t1935.length ko36) t1935, box 82 gb1938 [.int .i64 t1905, .int .i64 t1906, .slice Xo27 t1907.length ko27, .slice Xo28 t1910.length ko28, .slice Xo29 t1913.length ko29, .slice Xo30 t1916.length ko30, .int .i64 t1919, .slice Xo31 t1920.length ko31, .slice Xo32 t1923.length ko32, .slice Xo33 t1926.length ko33, .slice Xo34 t1929.length ko34, .slice Xo35 t1932.length ko35, .slice Xo36 t1935.length ko36]] := HM.focus [1, 2, 3, 4, 5, 6, 7, 8, 9, 10, 11, 23] [0, 12, 13, 14, 15, 16, 17, 18, 19, 20, 21, 22]
  clear HM
  generalize hFX62 : [] ++ [rowR k122 122 (.slice Xo13 t1871.length ko13) t1871, rowR k122 122 (.slice Xo14 t1874.length ko14) t1874, rowR (Kd.int .i64) 3 (.slice Xo15 t1877.length ko15) t1877, rowR (Kd.int .i64) 3 (.slice Xo16 t1880.length ko16) t1880, rowR (Kd.int .i64) 3 (.slice Xo17 t1884.length ko17) t1884, rowR k242 242 (.slice Xo18 t1887.length ko18) t1887, rowR (Kd.int .i64) 3 (.slice Xo19 t1890.length ko19) t1890, rowR k188 188 (.slice Xo20 t1893.length ko20) t1893, rr x135 135 (.slice Xo21 t1896.length ko21) t1896, rowR k191 191 (.slice Xo22 t1899.length ko22) t1899, rowR k150 150 (.slice Xo44 t1902.length ko44) t1902, rowR k150 150 (.slice Xo43 t1939.length ko43) t1939] = FX62 at HF
  have HM := HF
  clear HF
  refine RGN 5 [0, 1, 2, 3, 4] (fun a0 b a w' => ∃ (v1946 : Value) (v1949 : Value) (v1952 : Value) (v1955 : Value) (v1959 : Value) (v1962 : Value) (v1965 : Value) (v1968 : Value) (v1971 : Value) (v1974 : Value), a = putSel a0 b [(0, 31, .agg #[.int .i64 t1905, .int .i64 t1906, .slice Xo27 t1907.length ko27, .slice Xo28 t1910.length ko28, .slice Xo29 t1913.length ko29, .slice Xo30 t1916.length ko30, .int .i64 t1919, .slice Xo31 t1920.length ko31, .slice Xo32 t1923.length ko32, .slice Xo33 t1926.length ko33, .slice Xo34 t1929.length ko34, .slice Xo35 t1932.length ko35, .slice Xo36 t1935.length ko36]), (1, 32, .agg #[.int .i64 a0_0, .int .i64 a0_1, .slice A0_2 l0_2.length c0_2, .slice A0_3 l0_3.length c0_3, .slice A0_4 l0_4.length c0_4, .slice A0_5 l0_5.length c0_5, .int .i64 a0_6, .slice A0_7 l0_7.length c0_7, .slice A0_8 l0_8.length c0_8, .slice A0_9 l0_9.length c0_9, .slice A0_10 l0_10.length c0_10, .slice A0_11 l0_11.length c0_11, .slice A0_12 l0_12.length c0_12]), (2, 33, .agg #[.int .i64 t1943, .int .i64 t1944, v1946, v1949, v1952, v1955, .int .i64 t1957, v1959, v1962, v1965, v1968, v1971, v1974]), (3, 34, .bool t1976), (4, 35, .bool (!t1976))] ∧ Mem w FX62 w' [box 70 gb1867 [.int .i64 a0_0, .int .i64 a0_1, .slice A0_2 l0_2.length c0_2, .slice A0_3 l0_3.length c0_3, .slice A0_4 l0_4.length c0_4, .slice A0_5 l0_5.length c0_5, .int .i64 a0_6, .slice A0_7 l0_7.length c0_7, .slice A0_8 l0_8.length c0_8, .slice A0_9 l0_9.length c0_9, .slice A0_10 l0_10.length c0_10, .slice A0_11 l0_11.length c0_11, .slice A0_12 l0_12.length c0_12], rowR k122 122 (.slice Xo27 t1907.length ko27) t1907, rowR k122 122 (.slice Xo28 t1910.length ko28) t1910, rowR (Kd.int .i64) 3 (.slice Xo29 t1913.length ko29) t1913, rowR (Kd.int .i64) 3 (.slice Xo30 t1916.length ko30) t1916, rowR (Kd.int .i64) 3 (.slice Xo31 t1920.length ko31) t1920, rowR k242 242 (.slice Xo32 t1923.length ko32) t1923, rowR (Kd.int .i64) 3 (.slice Xo33 t1926.length ko33) t1926, rowR k188 188 (.slice Xo34 t1929.length ko34) t1929, rr x135 135 (.slice Xo35 t1932.length ko35) t1932, rowR k191 191 (.slice Xo36 t1935.length ko36) t1935, box 82 gb1938 [.int .i64 t1905, .int .i64 t1906, .slice Xo27 t1907.length ko27, .slice Xo28 t1910.length ko28, .slice Xo29 t1913.length ko29, .slice Xo30 t1916.length ko30, .int .i64 t1919, .slice Xo31 t1920.length ko31, .slice Xo32 t1923.length ko32, .slice Xo33 t1926.length ko33, .slice Xo34 t1929.length ko34, .slice Xo35 t1932.length ko35, .slice Xo36 t1935.length ko36], sel (b 2) (rowR k122 122 v1946 t1945) (emp), sel (b 2) (rowR k122 122 v1949 t1948) (emp), sel (b 2) (rowR (Kd.int .i64) 3 v1952 t1951) (emp), sel (b 2) (rowR (Kd.int .i64) 3 v1955 t1954) (emp), sel (b 2) (rowR (Kd.int .i64) 3 v1959 t1958) (emp), sel (b 2) (rowR k242 242 v1962 t1961) (emp), sel (b 2) (rowR (Kd.int .i64) 3 v1965 t1964) (emp), sel (b 2) (rowR k188 188 v1968 t1967) (emp), sel (b 2) (rr x135 135 v1971 t1970) (emp), sel (b 2) (rowR k191 191 v1974 t1973) (emp)]) laws_FnExactRepliesOf.tab10 laws_FnExactRepliesOf.bits10 ?_ ?_ ?_
  ·exact ⟨.bool false, .bool false, .bool false, .bool false, .bool false, .bool false, .bool false, .bool false, .bool false, .bool false, PS0' rfl _, (HM.drew.ems 10).pick [0, 1, 2, 3, 4, 5, 6, 7, 8, 9, 10, 11, 12, 13, 14, 15, 16, 17, 18, 19, 20, 21]⟩
  ·clear HM
   refine SZ ?_ ?_
   ·rintro b a w ⟨v1946, v1949, v1952, v1955, v1959, v1962, v1965, v1968, v1971, v1974, ha, HM⟩ hb hon hoff K hK
    replace ha := Aside0.mk ha
    obtain ⟨_,_,_,_,_,_,_,_,_,_,_,_,_,_,_,_,_,_,_,_,_,_,_,_,_,_⟩ := bk13 (HM.bx 11 rfl)
    have e7 := PG ha 7
    exact VL (.agg #[.int .i64 t1905, .int .i64 t1906, .slice Xo27 t1907.length ko27, .slice Xo28 t1910.length ko28, .slice Xo29 t1913.length ko29, .slice Xo30 t1916.length ko30, .int .i64 t1919, .slice Xo31 t1920.length ko31, .slice Xo32 t1923.length ko32, .slice Xo33 t1926.length ko33, .slice Xo34 t1929.length ko34, .slice Xo35 t1932.length ko35, .slice Xo36 t1935.length ko36]) (hK.out _ _ ⟨v1946, v1949, v1952, v1955, v1959, v1962, v1965, v1968, v1971, v1974, PUT ha 0 hb, HM⟩)
   refine SZ ?_ ?_
   ·rintro b a w ⟨v1946, v1949, v1952, v1955, v1959, v1962, v1965, v1968, v1971, v1974, ha, HM⟩ hb hon hoff K hK
    replace ha := Aside0.mk ha
    obtain ⟨_,_,_,_,_,_,_,_,_,_,_,_,_,_,_,_,_,_,_,_,_,_,_,_,_,_⟩ := bk13 (HM.bx 0 rfl)
    have e2 := PG ha 2
    exact VL (.agg #[.int .i64 a0_0, .int .i64 a0_1, .slice A0_2 l0_2.length c0_2, .slice A0_3 l0_3.length c0_3, .slice A0_4 l0_4.length c0_4, .slice A0_5 l0_5.length c0_5, .int .i64 a0_6, .slice A0_7 l0_7.length c0_7, .slice A0_8 l0_8.length c0_8, .slice A0_9 l0_9.length c0_9, .slice A0_10 l0_10.length c0_10, .slice A0_11 l0_11.length c0_11, .slice A0_12 l0_12.length c0_12]) (hK.out _ _ ⟨v1946, v1949, v1952, v1955, v1959, v1962, v1965, v1968, v1971, v1974, PUT ha 1 hb, HM⟩)
   refine SZ ?_ ?_
   ·rintro b a w ⟨v1946, v1949, v1952, v1955, v1959, v1962, v1965, v1968, v1971, v1974, ha, HM⟩ hb hon hoff K hK
    replace ha := Aside0.mk ha
    have e32 := PE ha 1 hon
    refine ST (eC (some 33) rfl #[.agg #[.int .i64 a0_0, .int .i64 a0_1, .slice A0_2 l0_2.length c0_2, .slice A0_3 l0_3.length c0_3, .slice A0_4 l0_4.length c0_4, .slice A0_5 l0_5.length c0_5, .int .i64 a0_6, .slice A0_7 l0_7.length c0_7, .slice A0_8 l0_8.length c0_8, .slice A0_9 l0_9.length c0_9, .slice A0_10 l0_10.length c0_10, .slice A0_11 l0_11.length c0_11, .slice A0_12 l0_12.length c0_12]] rfl Try.func30 (laws_toDesk.calls k a0_0 a0_1 _ _ l0_2 _ _ l0_3 _ _ l0_4 _ _ l0_5 a0_6 _ _ l0_7 _ _ l0_8 _ _ l0_9 _ _ l0_10 _ _ l0_11 _ _ l0_12 t1943 t1944 t1945 t1948 t1951 t1954 t1957 t1958 t1961 t1964 t1967 t1970 t1973 _ (HM.came HR0_2.out) HC0_2.out (HM.came HR0_3.out) HC0_3.out (HM.came HR0_4.out) HC0_4.out (HM.came HR0_5.out) HC0_5.out (HM.came HR0_7.out) HC0_7.out (HM.came HR0_8.out) HC0_8.out (HM.came HR0_9.out) HC0_9.out (HM.came HR0_10.out) HC0_10.out (HM.came HR0_11.out) HC0_11.out (HM.came HR0_12.out) HC0_12.out A46.out) ?_ (hargs := by (simp only [List.map_toArray, List.map_cons, List.map_nil, evc, eval_of e32]) <;> rfl))
    rintro e w79 ⟨v1946, v1949, v1952, v1955, v1959, v1962, v1965, v1968, v1971, v1974, rfl, hR⟩
    refine ⟨_, rfl, ?_⟩
    replace HM := HM.call hR
    clear hR
    exact hK.out _ _ ⟨v1946, v1949, v1952, v1955, v1959, v1962, v1965, v1968, v1971, v1974, PUT ha 2 hb, (HM).pick [0, 1, 2, 3, 4, 5, 6, 7, 8, 9, 10, 11, 22, 23, 24, 25, 26, 27, 28, 29, 30, 31]⟩
   refine SZ ?_ ?_
   ·rintro b a w ⟨v1946, v1949, v1952, v1955, v1959, v1962, v1965, v1968, v1971, v1974, ha, HM⟩ hb hon hoff K hK
    replace ha := Aside0.mk ha
    replace HM := HM.sT 12 rfl (hon 2 rfl)
    replace HM := HM.sT 13 rfl (hon 2 rfl)
    replace HM := HM.sT 14 rfl (hon 2 rfl)
    replace HM := HM.sT 15 rfl (hon 2 rfl)
    replace HM := HM.sT 16 rfl (hon 2 rfl)
    replace HM := HM.sT 17 rfl (hon 2 rfl)
    replace HM := HM.sT 18 rfl (hon 2 rfl)
    replace HM := HM.sT 19 rfl (hon 2 rfl)
    replace HM := HM.sT 20 rfl (hon 2 rfl)
    replace HM := HM.sT 21 rfl (hon 2 rfl)
    replace HM := nzM HM
    obtain ⟨Xo81, ko81, rfl⟩ := HM.rdR 12 rfl
    obtain ⟨Xo82, ko82, rfl⟩ := HM.rdR 13 rfl
    obtain ⟨Xo83, ko83, rfl⟩ := HM.rdR 14 rfl
    obtain ⟨Xo84, ko84, rfl⟩ := HM.rdR 15 rfl
    obtain ⟨Xo85, ko85, rfl⟩ := HM.rdR 16 rfl
    obtain ⟨Xo86, ko86, rfl⟩ := HM.rdR 17 rfl
    obtain ⟨Xo87, ko87, rfl⟩ := HM.rdR 18 rfl
    obtain ⟨Xo88, ko88, rfl⟩ := HM.rdR 19 rfl
    obtain ⟨Xo89, ko89, rfl⟩ := HM.rdRR 20 rfl
    obtain ⟨Xo90, ko90, rfl⟩ := HM.rdR 21 rfl
    have e31 := PE ha 0 hon
    have e33 := PE ha 2 hon
    refine ST (eC (some 34) rfl #[.agg #[.int .i64 t1905, .int .i64 t1906, .slice Xo27 t1907.length ko27, .slice Xo28 t1910.length ko28, .slice Xo29 t1913.length ko29, .slice Xo30 t1916.length ko30, .int .i64 t1919, .slice Xo31 t1920.length ko31, .slice Xo32 t1923.length ko32, .slice Xo33 t1926.length ko33, .slice Xo34 t1929.length ko34, .slice Xo35 t1932.length ko35, .slice Xo36 t1935.length ko36], .agg #[.int .i64 t1943, .int .i64 t1944, .slice Xo81 t1945.length ko81, .slice Xo82 t1948.length ko82, .slice Xo83 t1951.length ko83, .slice Xo84 t1954.length ko84, .int .i64 t1957, .slice Xo85 t1958.length ko85, .slice Xo86 t1961.length ko86, .slice Xo87 t1964.length ko87, .slice Xo88 t1967.length ko88, .slice Xo89 t1970.length ko89, .slice Xo90 t1973.length ko90]] rfl Try.func33 (laws_eqDesk.calls k t1905 t1906 _ _ t1907 _ _ t1910 _ _ t1913 _ _ t1916 t1919 _ _ t1920 _ _ t1923 _ _ t1926 _ _ t1929 _ _ t1932 _ _ t1935 t1943 t1944 _ _ t1945 _ _ t1948 _ _ t1951 _ _ t1954 t1957 _ _ t1958 _ _ t1961 _ _ t1964 _ _ t1967 _ _ t1970 _ _ t1973 t1976 _ (HM.CR 1 rfl).2.2 (HM.CR 1 rfl).2.1 (HM.CR 2 rfl).2.2 (HM.CR 2 rfl).2.1 (HM.CR 3 rfl).2.2 (HM.CR 3 rfl).2.1 (HM.CR 4 rfl).2.2 (HM.CR 4 rfl).2.1 (HM.CR 5 rfl).2.2 (HM.CR 5 rfl).2.1 (HM.CR 6 rfl).2.2 (HM.CR 6 rfl).2.1 (HM.CR 7 rfl).2.2 (HM.CR 7 rfl).2.1 (HM.CR 8 rfl).2.2 (HM.CR 8 rfl).2.1 (HM.CRR 9 rfl).2.2 (HM.CRR 9 rfl).2.1 (HM.CR 10 rfl).2.2 (HM.CR 10 rfl).2.1 (HM.CR 12 rfl).2.2 (HM.CR 12 rfl).2.1 (HM.CR 13 rfl).2.2 (HM.CR 13 rfl).2.1 (HM.CR 14 rfl).2.2 (HM.CR 14 rfl).2.1 (HM.CR 15 rfl).2.2 (HM.CR 15 rfl).2.1 (HM.CR 16 rfl).2.2 (HM.CR 16 rfl).2.1 (HM.CR 17 rfl).2.2 (HM.CR 17 rfl).2.1 (HM.CR 18 rfl).2.2 (HM.CR 18 rfl).2.1 (HM.CR 19 rfl).2.2 (HM.CR 19 rfl).2.1 (HM.CRR 20 rfl).2.2 (HM.CRR 20 rfl).2.1 (HM.CR 21 rfl).2.2 (HM.CR 21 rfl).2.1 A47.out) ?_ (hargs := by (simp only [List.map_toArray, List.map_cons, List.map_nil, evc, eval_of e31, eval_of e33]) <;> rfl))
    rintro e w80 ⟨rfl, hR⟩
    refine ⟨_, rfl, ?_⟩
    replace HM := HM.call hR
    clear hR
    refine hK.out _ _ ⟨.slice Xo81 t1945.length ko81, .slice Xo82 t1948.length ko82, .slice Xo83 t1951.length ko83, .slice Xo84 t1954.length ko84, .slice Xo85 t1958.length ko85, .slice Xo86 t1961.length ko86, .slice Xo87 t1964.length ko87, .slice Xo88 t1967.length ko88, .slice Xo89 t1970.length ko89, .slice Xo90 t1973.length ko90, PUT ha 3 hb, ?_⟩
    refine Mem.bT 21 rfl (hon 2 rfl) ?_
    refine Mem.bT 20 rfl (hon 2 rfl) ?_
    refine Mem.bT 19 rfl (hon 2 rfl) ?_
    dsimp only [List.set_cons_zero, List.set_cons_succ]
    refine Mem.bT 18 rfl (hon 2 rfl) ?_
    refine Mem.bT 17 rfl (hon 2 rfl) ?_
    refine Mem.bT 16 rfl (hon 2 rfl) ?_
    dsimp only [List.set_cons_zero, List.set_cons_succ]
    refine Mem.bT 15 rfl (hon 2 rfl) ?_
    refine Mem.bT 14 rfl (hon 2 rfl) ?_
    refine Mem.bT 13 rfl (hon 2 rfl) ?_
    dsimp only [List.set_cons_zero, List.set_cons_succ]
    refine Mem.bT 12 rfl (hon 2 rfl) ?_
    dsimp only [List.set_cons_zero, List.set_cons_succ]
    exact HM
   refine SZ ?_ ?_
   ·rintro b a w ⟨v1946, v1949, v1952, v1955, v1959, v1962, v1965, v1968, v1971, v1974, ha, HM⟩ hb hon hoff K hK
    replace ha := Aside0.mk ha
    have e34 := PE ha 3 hon
    exact VL (.bool (!t1976)) (hK.out _ _ ⟨v1946, v1949, v1952, v1955, v1959, v1962, v1965, v1968, v1971, v1974, PUT ha 4 hb, HM⟩)
   exact steps_nil
  rintro _ w91 ⟨v1946, v1949, v1952, v1955, v1959, v1962, v1965, v1968, v1971, v1974, rfl, HM⟩
  replace HM := HM.sT 12 rfl rfl
  replace HM := HM.sT 13 rfl rfl
  replace HM := HM.sT 14 rfl rfl
  replace HM := HM.sT 15 rfl rfl
  replace HM := HM.sT 16 rfl rfl
  replace HM := HM.sT 17 rfl rfl
  replace HM := HM.sT 18 rfl rfl
  replace HM := HM.sT 19 rfl rfl
  replace HM := HM.sT 20 rfl rfl
  replace HM := HM.sT 21 rfl rfl
  replace HM := nzM HM
  simp only [putSel, if_true, Act.put, List.setIfInBounds_toArray, List.set_cons_zero, List.set_cons_succ, gt_iff_lt, ge_iff_le]
  rw [← hFX62] at HM
  clear hFX62
  replace HM := nzM HM.unfocus
  replace H := GD H
  obtain ⟨c92, H⟩ := H
  subst c92
  replace H := BN H; obtain ⟨⟨t1977, t1978, t1979, t1980, t1981, t1982, t1983, t1984, t1985, t1986, t1987⟩, A94, H⟩ := H
  have HC96 := Aside0.mk H
  clear H
  obtain ⟨_,_,_,_,_,_,_,_,_,_,_,_,_,_,_,_,_,_,_,_,_,_,_,_,_,_⟩ := bk13 (HM.bx 23 rfl)
  go_upto_region 14 with (first | ((with_reducible refine gC 34 rfl ?_); refine pC (some 38) rfl #[.agg #[.int .i64 t1905, .int .i64 t1906, .slice Xo27 t1907.length ko27, .slice Xo28 t1910.length ko28, .slice Xo29 t1913.length ko29, .slice Xo30 t1916.length ko30, .int .i64 t1919, .slice Xo31 t1920.length ko31, .slice Xo32 t1923.length ko32, .slice Xo33 t1926.length ko33, .slice Xo34 t1929.length ko34, .slice Xo35 t1932.length ko35, .slice Xo36 t1935.length ko36], .int .i64 1] rfl Try.func34 (laws_markDesk.calls k t1905 t1906 (.slice Xo27 t1907.length ko27) t1907 (.slice Xo28 t1910.length ko28) t1910 (.slice Xo29 t1913.length ko29) t1913 (.slice Xo30 t1916.length ko30) t1916 t1919 (.slice Xo31 t1920.length ko31) t1920 (.slice Xo32 t1923.length ko32) t1923 (.slice Xo33 t1926.length ko33) t1926 (.slice Xo34 t1929.length ko34) t1929 (.slice Xo35 t1932.length ko35) t1932 (.slice Xo36 t1935.length ko36) t1935 1 t1977 t1978 t1979 t1980 t1981 t1982 t1983 t1984 t1985 t1986 t1987 _ _ _ (HM.focus [0, 1, 2, 3, 4, 5, 6, 7, 8, 9, 10, 11, 12, 23, 24, 25, 26, 27, 28, 29, 30, 31, 32, 33] [13, 14, 15, 16, 17, 18, 19, 20, 21, 22]) A94.out) ?_; rintro e w95 ⟨rfl, hR⟩; refine ⟨_, rfl, ?_⟩; replace HM := nzM hR.unfocus; clear hR))
  go_cut [46] (fun v46 wc => ∃ (kq : Nat) (x46_95 : Bool), v46 = .bool x46_95 ∧ Aside0 (laws_FnExactRepliesOf.j0 kq a1 t1902 t1939 x46_95 a0_0 a0_1 l0_2 l0_3 l0_4 l0_5 a0_6 l0_7 l0_8 l0_9 l0_10 l0_11 l0_12 = some r) ∧ Aside0 (kq ≤ k) ∧ Mem w [] wc [rowR k150 150 (.slice Xo44 t1902.length ko44) t1902, rowR k150 150 (.slice Xo43 t1939.length ko43) t1939, box 70 gb1867 [.int .i64 a0_0, .int .i64 a0_1, .slice A0_2 l0_2.length c0_2, .slice A0_3 l0_3.length c0_3, .slice A0_4 l0_4.length c0_4, .slice A0_5 l0_5.length c0_5, .int .i64 a0_6, .slice A0_7 l0_7.length c0_7, .slice A0_8 l0_8.length c0_8, .slice A0_9 l0_9.length c0_9, .slice A0_10 l0_10.length c0_10, .slice A0_11 l0_11.length c0_11, .slice A0_12 l0_12.length c0_12]])
  case first =>
   have H := HC96.out
   clear HC96
   replace H := IT H; rcases H with ⟨c97, H⟩ | ⟨c97, H⟩
   ·have c97b0 : decide (t1977 < 0) = true := decide_eq_true c97
    clear c97
    have H' := Aside0.mk H
    clear H
    go_wp2
    go_meet
    case rel => exact ⟨_, (true), RS, H', ⟨by first | omega | exact Nat.le_refl _⟩, (MD HM).pick [10, 11, 12]⟩
   ·have c97b0 : decide (t1977 < 0) = false := decide_eq_false c97
    clear c97
    replace H := BN H; obtain ⟨t1988, A98, H⟩ := H
    have H' := Aside0.mk H
    clear H
    go_wp2_with (first | ((with_reducible refine gC 39 rfl ?_); refine pC (some 44) rfl #[.slice Xo43 t1939.length ko43, .slice Xo44 t1902.length ko44] rfl Try.func39 (laws_eqReplyS.calls k _ _ t1939 _ _ t1902 t1988 _ (HM.CR 11 rfl).2.2 (HM.CR 11 rfl).2.1 (HM.CR 10 rfl).2.2 (HM.CR 10 rfl).2.1 A98.out) ?_; rintro e w99 ⟨rfl, hR⟩; refine ⟨_, rfl, ?_⟩; replace HM := HM.call hR; clear hR))
    go_meet
    case rel => exact ⟨_, (!t1988), RS, H', ⟨by first | omega | exact Nat.le_refl _⟩, (MD HM).pick [10, 11, 12]⟩
  case rest =>
   clear HC96 HM
   obtain ⟨kq, x46_95, rfl, HA, HJ95, HM⟩ := hcut
   cases kq with
   | zero => exact absurd HA.out (by simp [laws_FnExactRepliesOf.j0])
   | succ kj95 =>
    have H := HA.out
    clear HA
    simp only [laws_FnExactRepliesOf.j0] at H
    replace H := GN H
    obtain ⟨c100, H⟩ := H
    replace c100 := Bool.eq_false_iff.mpr c100
    subst c100
    replace H := BN H; obtain ⟨⟨t1989, t1990⟩, A101, H⟩ := H
    replace H := BN H; obtain ⟨t1991, A103, H⟩ := H
    replace H := GN H; obtain ⟨c105, H⟩ := H
    have c105b0 : decide (t1991 < 0) = false := decide_eq_false c105
    clear c105
    replace H := GD H; obtain ⟨c106, H⟩ := H
    have c106b0 : (t1991 == t1989) = true := beq_iff_eq.mpr c106
    have c106b1 : (t1991 != t1989) = false := bne_eq_false_iff_eq.mpr c106
    clear c106
    replace H := BN H; obtain ⟨⟨t1992, t1993, t1994, t1997, t2000, t2003, t2006, t2007, t2010, t2013, t2016, t2019, t2022⟩, A108, H⟩ := H
    replace H := BN H; obtain ⟨t2025, A110, H⟩ := H
    replace H := BN H; obtain ⟨t2028, A122, H⟩ := H
    replace H := GD H
    obtain ⟨c125, H⟩ := H
    subst c125
    replace H := BN H; obtain ⟨t2029, A126, H⟩ := H
    replace H := GN H; obtain ⟨c128, H⟩ := H
    have c128b0 : decide (t2029 < 0) = false := decide_eq_false c128
    clear c128
    replace H := GD H; obtain ⟨c129, H⟩ := H
    have c129b0 : (t2029 == t1989) = true := beq_iff_eq.mpr c129
    have c129b1 : (t2029 != t1989) = false := bne_eq_false_iff_eq.mpr c129
    clear c129
    obtain rfl := Option.some.inj H
    replace HM := HM.toQ 1 rfl
    go_wp2_with (first | ((with_reducible refine gC 40 rfl ?_); refine pC (some 49) rfl #[.slice Xo43 t1939.length ko43, .int .i64 1] rfl Try.func40 (laws_markReplyS.calls kj95 (.slice Xo43 t1939.length ko43) t1939 1 t1989 t1990 _ _ _ (HM.focus [0, 2] [1]) A101.out) ?_; rintro e w102 ⟨rfl, hR⟩; refine ⟨_, rfl, ?_⟩; replace HM := nzM hR.unfocus; clear hR) | ((with_reducible refine gC 41 rfl ?_); refine pC (some 52) rfl #[.slice Xo43 t1990.length ko43, .int .i64 1] rfl Try.func41 (laws_heldReplyS.calls kj95 _ _ t1990 1 t1991 _ (HM.C 2 rfl).2.2 (by rw [← (HM.C 2 rfl).1]; exact (HM.C 2 rfl).2.1) A103.out) ?_ (hargs := by (try simp only [List.map_toArray, List.map_cons, List.map_nil]); show (#[.slice Xo43 t1939.length ko43, .int .i64 1] : Array Value) = _; rw [(HM.C 2 rfl).1]); rintro e w104 ⟨rfl, hR⟩; refine ⟨_, rfl, ?_⟩; replace HM := HM.call hR; clear hR; obtain ⟨_,_,_,_,_,_,_,_,_,_,_,_,_,_,_,_,_,_,_,_,_,_,_,_,_,_⟩ := bk13 (HM.bx 1 rfl)) | ((with_reducible refine gC 30 rfl ?_); refine pC (some 59) rfl #[.agg #[.int .i64 a0_0, .int .i64 a0_1, .slice A0_2 l0_2.length c0_2, .slice A0_3 l0_3.length c0_3, .slice A0_4 l0_4.length c0_4, .slice A0_5 l0_5.length c0_5, .int .i64 a0_6, .slice A0_7 l0_7.length c0_7, .slice A0_8 l0_8.length c0_8, .slice A0_9 l0_9.length c0_9, .slice A0_10 l0_10.length c0_10, .slice A0_11 l0_11.length c0_11, .slice A0_12 l0_12.length c0_12]] rfl Try.func30 (laws_toDesk.calls kj95 a0_0 a0_1 _ _ l0_2 _ _ l0_3 _ _ l0_4 _ _ l0_5 a0_6 _ _ l0_7 _ _ l0_8 _ _ l0_9 _ _ l0_10 _ _ l0_11 _ _ l0_12 t1992 t1993 t1994 t1997 t2000 t2003 t2006 t2007 t2010 t2013 t2016 t2019 t2022 _ (HM.came HR0_2.out) HC0_2.out (HM.came HR0_3.out) HC0_3.out (HM.came HR0_4.out) HC0_4.out (HM.came HR0_5.out) HC0_5.out (HM.came HR0_7.out) HC0_7.out (HM.came HR0_8.out) HC0_8.out (HM.came HR0_9.out) HC0_9.out (HM.came HR0_10.out) HC0_10.out (HM.came HR0_11.out) HC0_11.out (HM.came HR0_12.out) HC0_12.out A108.out) ?_; rintro e w109 ⟨v1995, v1998, v2001, v2004, v2008, v2011, v2014, v2017, v2020, v2023, rfl, hR⟩; refine ⟨_, rfl, ?_⟩; replace HM := HM.call hR; clear hR; obtain ⟨Xo112, ko112, rfl⟩ := HM.rdR 3 rfl; obtain ⟨Xo113, ko113, rfl⟩ := HM.rdR 4 rfl; obtain ⟨Xo114, ko114, rfl⟩ := HM.rdR 5 rfl; obtain ⟨Xo115, ko115, rfl⟩ := HM.rdR 6 rfl; obtain ⟨Xo116, ko116, rfl⟩ := HM.rdR 7 rfl; obtain ⟨Xo117, ko117, rfl⟩ := HM.rdR 8 rfl; obtain ⟨Xo118, ko118, rfl⟩ := HM.rdR 9 rfl; obtain ⟨Xo119, ko119, rfl⟩ := HM.rdR 10 rfl; obtain ⟨Xo120, ko120, rfl⟩ := HM.rdRR 11 rfl; obtain ⟨Xo121, ko121, rfl⟩ := HM.rdR 12 rfl) | ((with_reducible refine gC 38 rfl ?_); refine pC (some 61) rfl #[.agg #[.int .i64 t1992, .int .i64 t1993, .slice Xo112 t1994.length ko112, .slice Xo113 t1997.length ko113, .slice Xo114 t2000.length ko114, .slice Xo115 t2003.length ko115, .int .i64 t2006, .slice Xo116 t2007.length ko116, .slice Xo117 t2010.length ko117, .slice Xo118 t2013.length ko118, .slice Xo119 t2016.length ko119, .slice Xo120 t2019.length ko120, .slice Xo121 t2022.length ko121], .int .i64 a1] rfl Try.func38 (impl_RepliesOf.calls t1992 t1993 _ _ t1994 _ _ t1997 _ _ t2000 _ _ t2003 t2006 _ _ t2007 _ _ t2010 _ _ t2013 _ _ t2016 _ _ t2019 _ _ t2022 a1 t2025 _ (HM.CR 3 rfl).2.2 (HM.CR 3 rfl).2.1 (HM.CR 4 rfl).2.2 (HM.CR 4 rfl).2.1 (HM.CR 5 rfl).2.2 (HM.CR 5 rfl).2.1 (HM.CR 6 rfl).2.2 (HM.CR 6 rfl).2.1 (HM.CR 7 rfl).2.2 (HM.CR 7 rfl).2.1 (HM.CR 8 rfl).2.2 (HM.CR 8 rfl).2.1 (HM.CR 9 rfl).2.2 (HM.CR 9 rfl).2.1 (HM.CR 10 rfl).2.2 (HM.CR 10 rfl).2.1 (HM.CRR 11 rfl).2.2 (HM.CRR 11 rfl).2.1 (HM.CR 12 rfl).2.2 (HM.CR 12 rfl).2.1 A110.out) ?_; rintro e w111 ⟨v2026, rfl, hR⟩; refine ⟨_, rfl, ?_⟩; replace HM := HM.call hR; clear hR; obtain ⟨Xo124, ko124, rfl⟩ := HM.rdR 13 rfl) | ((with_reducible refine gC 39 rfl ?_); refine pC (some 64) rfl #[.slice Xo124 t2025.length ko124, .slice Xo44 t1902.length ko44] rfl Try.func39 (laws_eqReplyS.calls kj95 _ _ t2025 _ _ t1902 true _ (HM.CR 13 rfl).2.2 (HM.CR 13 rfl).2.1 (HM.CR 0 rfl).2.2 (HM.CR 0 rfl).2.1 A122.out) ?_; rintro e w123 ⟨rfl, hR⟩; refine ⟨_, rfl, ?_⟩; replace HM := HM.call hR; clear hR) | ((with_reducible refine gC 41 rfl ?_); refine pC (some 68) rfl #[.slice Xo43 t1990.length ko43, .int .i64 1] rfl Try.func41 (laws_heldReplyS.calls kj95 _ _ t1990 1 t2029 _ (HM.C 2 rfl).2.2 (by rw [← (HM.C 2 rfl).1]; exact (HM.C 2 rfl).2.1) A126.out) ?_ (hargs := by (try simp only [List.map_toArray, List.map_cons, List.map_nil]); show (#[.slice Xo43 t1939.length ko43, .int .i64 1] : Array Value) = _; rw [(HM.C 2 rfl).1]); rintro e w127 ⟨rfl, hR⟩; refine ⟨_, rfl, ?_⟩; replace HM := HM.call hR; clear hR))
    go_ret
    exact ⟨ER, HM.bel⟩
end Go.Proofs.Ythnedklbobbkcaa.G
