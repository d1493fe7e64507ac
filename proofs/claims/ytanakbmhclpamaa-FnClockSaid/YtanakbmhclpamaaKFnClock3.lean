/- Part 3 of the claim FnClock, merged by pack.py (this session's program) out of: the print's words, cut to what is needed; texts that gen.py printed (it runs the kit's print in place); texts of this session. -/
import Derived.Test.YtanakbmhclpamaaKFnClock1
import Derived.Test.YtanakbmhclpamaaKFnClock2
namespace Go.Proofs.Ytanakbmhclpamaa.Mm
end Go.Proofs.Ytanakbmhclpamaa.Mm
namespace Go.Proofs.Ytanakbmhclpamaa.Sh
end Go.Proofs.Ytanakbmhclpamaa.Sh
namespace Go.Proofs.Ytanakbmhclpamaa.G
open Go.RowKit Go.Proofs.YtanakbmhclpamaaW.PrintWords Go.Proofs.YtanakbmhclpamaaW.PrintLast Go.Proofs.YtanakbmhclpamaaW.PrintMore Go.Proofs.Ytanakbmhclpamaa.Sh
attribute [local go_sem] max2_int min2_int max_two min_two max_three min_three max_four min_four
set_option linter.unusedVariables false
set_option linter.unusedSimpArgs false
open Go.Proofs.Ytanakbmhclpamaa.Mm
/-- A state of type 81 at block g of W; what its slices lead to came in by w0. -/
def IsS81 (w0 W : World) (g : Nat) (f0 : List Int) (f1 : Int) (f2 : Int) : Prop := ∃ A0 c0, W.heap[g]? = some (.cells #[.slice A0 f0.length c0, .int .i64 f1, .int .i64 f2] 81 (0, 0)) ∧ w0.heap.size ≤ g ∧ Kd.C (Kd.int .u8) w0 A0 f0.length f0
theorem IsS81.grown {w0 W : World} {g : Nat} {f0 : List Int} {f1 : Int} {f2 : Int} {W1 : World} {row : Option Nat} (h : IsS81 w0 W g f0 f1 f2) (hw : W.grownBy W1 row) (hne : some g ≠ row) : IsS81 w0 W1 g f0 f1 f2 := by
 obtain ⟨A0, c0, hb, hg, hr0⟩ := h
 exact ⟨A0, c0, blk_grown hb hw hne, hg, hr0⟩
theorem IsS81.kept {w0 W : World} {g : Nat} {f0 : List Int} {f1 : Int} {f2 : Int} {W1 : World} {S : Nat → Prop} (h : IsS81 w0 W g f0 f1 f2) (hk : Kept W W1 S) (hne : ¬ S g) : IsS81 w0 W1 g f0 f1 f2 := by
 obtain ⟨A0, c0, hb, hg, hr0⟩ := h
 exact ⟨A0, c0, blk_kept hb hk hne, hg, hr0⟩
theorem IsS81.below {w0 W : World} {g : Nat} {f0 : List Int} {f1 : Int} {f2 : Int} {W1 : World} (h : IsS81 w0 W g f0 f1 f2) (hw : Below W.heap.size W W1) : IsS81 w0 W1 g f0 f1 f2 := h.grown (grown_of_below hw none) (by simp)
theorem IsS81.alloc {w0 W : World} {g : Nat} {f0 : List Int} {f1 : Int} {f2 : Int} (h : IsS81 w0 W g f0 f1 f2) (o : Obj) : IsS81 w0 (W.alloc o) g f0 f1 f2 := h.below (below_alloc (Below.refl _ _) o)
theorem IsS81.drewN {w0 W : World} {g : Nat} {f0 : List Int} {f1 : Int} {f2 : Int} (h : IsS81 w0 W g f0 f1 f2) (m : Nat) : IsS81 w0 (W.drewN m) g f0 f1 f2 := h
theorem IsS81.drew {w0 W : World} {g : Nat} {f0 : List Int} {f1 : Int} {f2 : Int} (h : IsS81 w0 W g f0 f1 f2) : IsS81 w0 W.drew g f0 f1 f2 := h
theorem IsS81.at_ {w0 W : World} {g : Nat} {f0 : List Int} {f1 : Int} {f2 : Int} {w' : World} {m : Nat} (hq : W.drewN m = w') (h : IsS81 w0 W g f0 f1 f2) : IsS81 w0 w' g f0 f1 f2 := by subst hq; exact IsS81.drewN h m
theorem IsS81.apart {w0 W : World} {g : Nat} {f0 : List Int} {f1 : Int} {f2 : Int} {α : Type} {d : Kd α} {e : Nat} {base : Nat} {ok : Nat → Prop} {v : Value} {xs : List α} (h : IsS81 w0 W g f0 f1 f2) (ho : d.R e W base ok v xs) (ht : ∀ q, q ∈ e :: d.E → q ≠ 81) : d.R e W base (fun k => ok k ∧ k ≠ g) v xs := by
 obtain ⟨A0, c0, hb, hg, hr0⟩ := h
 exact Kd.R_types ho hb ht
theorem IsS81.lt {w0 W : World} {g : Nat} {f0 : List Int} {f1 : Int} {f2 : Int} (h : IsS81 w0 W g f0 f1 f2) : g < W.heap.size := by
 obtain ⟨A0, c0, hb, hg, hr0⟩ := h
 exact blk_lt hb
def spec_l01New.l0 : Nat → List Int → Int → Int → Option (List Int × Int × Int)
 | 0, _, _, _ => none
 | k + 1, x0, x3, x4 => if x4 < (x0.length : Int) then (if x4 < 4000 then (if 0 ≤ x4 then (spec_l01New.l0 k x0 (Go.bits .and .i64 (wrap64 ((wrap64 ((wrap64 (x3 * 179)) + (wrap64 (rd x0 x4)))) + 7)) 1073741823) (wrap64 (x4 + 1))) else (none)) else (some (x0, 0, x3))) else (some (x0, 0, x3))
def spec_l01New.f (k : Nat) (l0 : List Int) : Option (List Int × Int × Int) := spec_l01New.l0 k l0 (wrap64 (774119 + (l0.length : Int))) 0
set_option maxHeartbeats 8000000 in
set_option maxRecDepth 100000 in
theorem spec_l01New.calls (k : Nat) (A0 : Option Addr) (c0 : Nat) (l0 : List Int) (r1 : List Int) (r2 : Int) (r3 : Int) (w0 w : World) (hB : Below w0.heap.size w0 w) (hr0 : Kd.C (Kd.int .u8) w0 A0 l0.length l0) (hc0 : l0.length ≤ c0) (h : spec_l01New.f k l0 = some (r1, r2, r3)) :
  Calls Try.prog 56 #[.slice A0 l0.length c0] w fun e w' => ∃ g_ : Nat, ∃ (X0_ : Option Addr) (c0_ : Nat), e = .returned (.pointer (some ⟨g_, 0, none⟩)) ∧ Mem w [] w' [box 81 g_ [.slice X0_ r1.length c0_, .int .i64 r2, .int .i64 r3]] ∧ Kd.C (Kd.int .u8) w0 X0_ r1.length r1 ∧ r1.length ≤ c0_ := by
 have hu81 := Try.underlying81
 have HZ0 := Aside0.mk hr0
 have HR0 := Aside0.mk (Kd.C_below hr0 hB)
 have HC0 := Aside0.mk hc0
 clear hr0 hc0
 clear hB
 have HM := Mem.nil w
 have H := h
 clear h
 unfold spec_l01New.f at H
 go_enter Try.func56, Try.ntmps56
 have H' := Aside0.mk H
 clear H
 go_wp2
 go_loopg [3, 4] k (fun kq v3 v4 w' => ∃ (x3_1 : Int) (x4_1 : Int), v3 = .int .i64 x3_1 ∧ v4 = .int .i64 x4_1 ∧ Aside0 (spec_l01New.l0 kq l0 x3_1 x4_1 = some (r1, r2, r3)) ∧ Aside0 (kq ≤ k) ∧ Mem w [] w' [])
 case atStart => exact ⟨(wrap64 (774119 + (l0.length : Int))), (0), RS, RS, H', ⟨Nat.le_refl _⟩, (MD HM).pick []⟩
 case round =>
  clear H' HM
  obtain ⟨x3_1, x4_1, rfl, rfl, HA, HK1, HM⟩ := hrel
  cases gk with
  | zero => exact absurd HA.out (by simp [spec_l01New.l0])
  | succ k1 =>
   have H := HA.out
   clear HA
   simp only [spec_l01New.l0] at H
   replace H := IT H; rcases H with ⟨c2, H⟩ | ⟨c2, H⟩
   ·have c2b0 : decide (x4_1 < (l0.length : Int)) = true := decide_eq_true c2
    clear c2
    go_upto_if 15 with (fail)
    replace H := IT H; rcases H with ⟨c3, H⟩ | ⟨c3, H⟩
    ·have c3b0 : decide (x4_1 < 4000) = true := decide_eq_true c3
     clear c3
     (first | rw [c3b0] | (simp only [i64_w, i32_w]; rw [c3b0]) | skip)
     replace H := GD H; obtain ⟨c4, H⟩ := H
     have c4b0 : decide (0 ≤ x4_1) = true := decide_eq_true c4
     clear c4
     have H' := Aside0.mk H
     clear H
     have p1526 : 0 ≤ (x4_1 : Int) := of_decide_eq_true AS
     have q1526 : (x4_1 : Int) < (l0.length : Int) := of_decide_eq_true AS
     obtain ⟨ad1526, e1526, hx1526_0⟩ := Kd.at_int (HM.came HR0.out) x4_1 p1526 q1526
     cases e1526
     replace p1526 := eq_true p1526
     replace q1526 := eq_true q1526
     go_wp2
     go_roundg k1
     case measure => have := HK1.out; omega
     case rel => exact ⟨(Go.bits .and .i64 (wrap64 ((wrap64 ((wrap64 (x3_1 * 179)) + (wrap64 (rd l0 x4_1)))) + 7)) 1073741823), (wrap64 (x4_1 + 1)), RS, RS, H', ⟨by have := HK1.out; omega⟩, (MD HM).pick []⟩
    ·have c3b0 : decide (x4_1 < 4000) = false := decide_eq_false c3
     clear c3
     (first | rw [c3b0] | (simp only [i64_w, i32_w]; rw [c3b0]) | skip)
     simp only [Option.some.injEq, Prod.mk.injEq] at H
     obtain ⟨rfl, rfl, rfl⟩ := H
     go_wp2_with (first | ((with_reducible refine gN 31 rfl ?_); refine pB 31 81 [.slice A0 l0.length c0, .int .i64 0, .int .i64 x3_1] HM rfl ?_; clear HM; intro gb1527 w5 HM))
     go_ret
     exact ⟨_, _, _, ER, (MD HM).pick [0], HZ0.out, HC0.out⟩
   ·have c2b0 : decide (x4_1 < (l0.length : Int)) = false := decide_eq_false c2
    clear c2
    simp only [Option.some.injEq, Prod.mk.injEq] at H
    obtain ⟨rfl, rfl, rfl⟩ := H
    go_wp2_with (first | ((with_reducible refine gN 31 rfl ?_); refine pB 31 81 [.slice A0 l0.length c0, .int .i64 0, .int .i64 x3_1] HM rfl ?_; clear HM; intro gb1528 w6 HM))
    go_ret
    exact ⟨_, _, _, ER, (MD HM).pick [0], HZ0.out, HC0.out⟩
def spec_l01Byte.f (s0_0 : List Int) (s0_1 : Int) (s0_2 : Int) : Option (Int × Int × Int) := if s0_1 < (s0_0.length : Int) then (if 0 ≤ s0_1 then (some (Go.bits .and .i64 (wrap64 ((Go.bits .and .i64 (Go.bits .xor .i64 ((wrap64 ((wrap64 (s0_2 * 6364136223846793005)) + 1442695040888963407)) / 8589934592) ((wrap64 ((wrap64 (s0_2 * 6364136223846793005)) + 1442695040888963407)) / 35184372088832)) 255) + (wrap64 (rd s0_0 s0_1)))) 255, wrap64 (s0_1 + 1), wrap64 ((wrap64 (s0_2 * 6364136223846793005)) + 1442695040888963407))) else (none)) else (some (Go.bits .and .i64 (Go.bits .xor .i64 ((wrap64 ((wrap64 (s0_2 * 6364136223846793005)) + 1442695040888963407)) / 8589934592) ((wrap64 ((wrap64 (s0_2 * 6364136223846793005)) + 1442695040888963407)) / 35184372088832)) 255, s0_1, wrap64 ((wrap64 (s0_2 * 6364136223846793005)) + 1442695040888963407)))
set_option maxHeartbeats 8000000 in
set_option maxRecDepth 100000 in
theorem spec_l01Byte.calls (g : Nat) (A0_0 : Option Addr) (c0_0 : Nat) (s0_0 : List Int) (s0_1 : Int) (s0_2 : Int) (r1 : Int) (r2 : Int) (r3 : Int) (w0 w : World) (F : List SP) (hrs0_0 : Kd.C (Kd.int .u8) w0 A0_0 s0_0.length s0_0) (hcs0_0 : s0_0.length ≤ c0_0) (hM : Mem w0 F w [box 81 g [.slice A0_0 s0_0.length c0_0, .int .i64 s0_1, .int .i64 s0_2]]) (h : spec_l01Byte.f s0_0 s0_1 s0_2 = some (r1, r2, r3)) :
  Calls Try.prog 81 #[.pointer (some ⟨g, 0, none⟩)] w fun e w' => e = .returned (.int .i64 r1) ∧ Mem w0 F w' [box 81 g [.slice A0_0 s0_0.length c0_0, .int .i64 r2, .int .i64 r3]] := by
 have HRs0_0 := Aside0.mk hrs0_0
 have HCs0_0 := Aside0.mk hcs0_0
 clear hrs0_0 hcs0_0
 have HM := hM
 clear hM
 have H := h
 clear h
 unfold spec_l01Byte.f at H
 go_enter Try.func81, Try.ntmps81
 obtain ⟨z2_0, z2_1, z2_2, Z2_0, Z2_1, Z2_2⟩ := bk3 (HM.bx 0 rfl)
 go_upto_if 34 with (first | ((with_reducible refine gS 12 rfl ?_); refine pS 0 12 2 [.int .i64 (wrap64 ((wrap64 (s0_2 * 6364136223846793005)) + 1442695040888963407))] HM rfl rfl ?_; clear HM; intro w3 HM; obtain ⟨z4_0, z4_1, z4_2, Z4_0, Z4_1, Z4_2⟩ := bk3 (HM.bx 0 rfl)))
 repeat (go_quiet (first | ((with_reducible refine gS 12 rfl ?_); refine pS 0 12 2 [.int .i64 (wrap64 ((wrap64 (s0_2 * 6364136223846793005)) + 1442695040888963407))] HM rfl rfl ?_; clear HM; intro w3 HM; obtain ⟨z4_0, z4_1, z4_2, Z4_0, Z4_1, Z4_2⟩ := bk3 (HM.bx 0 rfl))); go_upto_if 34 with (first | ((with_reducible refine gS 12 rfl ?_); refine pS 0 12 2 [.int .i64 (wrap64 ((wrap64 (s0_2 * 6364136223846793005)) + 1442695040888963407))] HM rfl rfl ?_; clear HM; intro w3 HM; obtain ⟨z4_0, z4_1, z4_2, Z4_0, Z4_1, Z4_2⟩ := bk3 (HM.bx 0 rfl))))
 replace H := IT H; rcases H with ⟨c5, H⟩ | ⟨c5, H⟩
 ·have c5b0 : decide (s0_1 < (s0_0.length : Int)) = true := decide_eq_true c5
  clear c5
  (first | rw [c5b0] | (simp only [i64_w, i32_w]; rw [c5b0]) | skip)
  replace H := GD H; obtain ⟨c6, H⟩ := H
  have c6b0 : decide (0 ≤ s0_1) = true := decide_eq_true c6
  clear c6
  simp only [Option.some.injEq, Prod.mk.injEq] at H
  obtain ⟨rfl, rfl, rfl⟩ := H
  have p1529 : 0 ≤ (s0_1 : Int) := of_decide_eq_true AS
  have q1529 : (s0_1 : Int) < (s0_0.length : Int) := of_decide_eq_true AS
  obtain ⟨ad1529, e1529, hx1529_0⟩ := Kd.at_int (HM.came HRs0_0.out) s0_1 p1529 q1529
  cases e1529
  replace p1529 := eq_true p1529
  replace q1529 := eq_true q1529
  go_wp2_with (first | ((with_reducible refine gS 56 rfl ?_); refine pS 0 56 1 [.int .i64 (wrap64 (s0_1 + 1))] HM rfl rfl ?_; clear HM; intro w7 HM))
  repeat (go_quiet (first | ((with_reducible refine gS 56 rfl ?_); refine pS 0 56 1 [.int .i64 (wrap64 (s0_1 + 1))] HM rfl rfl ?_; clear HM; intro w7 HM)); try go_wp2_with (first | ((with_reducible refine gS 56 rfl ?_); refine pS 0 56 1 [.int .i64 (wrap64 (s0_1 + 1))] HM rfl rfl ?_; clear HM; intro w7 HM)))
  go_ret
  exact ⟨ER, (MD HM).pick [0]⟩
 ·have c5b0 : decide (s0_1 < (s0_0.length : Int)) = false := decide_eq_false c5
  clear c5
  (first | rw [c5b0] | (simp only [i64_w, i32_w]; rw [c5b0]) | skip)
  simp only [Option.some.injEq, Prod.mk.injEq] at H
  obtain ⟨rfl, rfl, rfl⟩ := H
  go_wp2
  repeat (go_quiet (fail); try go_wp2_with (fail))
  go_ret
  exact ⟨ER, (MD HM).pick [0]⟩
def spec_l01Below.f (s0_0 : List Int) (s0_1 : Int) (s0_2 : Int) (a1 : Int) : Option (Int × Int × Int) := if a1 ≤ 0 then (some (0, s0_1, s0_2)) else (if a1 ≤ 256 then ((spec_l01Byte.f s0_0 s0_1 s0_2).bind fun bt1530 => (if a1 = 0 then (none) else (some (Int.tmod bt1530.1 a1, bt1530.2.1, bt1530.2.2)))) else ((spec_l01Byte.f s0_0 s0_1 s0_2).bind fun bt1533 => ((spec_l01Byte.f s0_0 bt1533.2.1 bt1533.2.2).bind fun bt1536 => ((spec_l01Byte.f s0_0 bt1536.2.1 bt1536.2.2).bind fun bt1539 => ((spec_l01Byte.f s0_0 bt1539.2.1 bt1539.2.2).bind fun bt1542 => (if a1 = 0 then (none) else (some (Int.tmod (wrap64 ((wrap64 ((wrap64 ((wrap64 (bt1533.1 * 16777216)) + (wrap64 (bt1536.1 * 65536)))) + (wrap64 (bt1539.1 * 256)))) + bt1542.1)) a1, bt1542.2.1, bt1542.2.2))))))))
set_option maxHeartbeats 8000000 in
set_option maxRecDepth 100000 in
theorem spec_l01Below.calls (g : Nat) (A0_0 : Option Addr) (c0_0 : Nat) (s0_0 : List Int) (s0_1 : Int) (s0_2 : Int) (a1 : Int) (r1 : Int) (r2 : Int) (r3 : Int) (w0 w : World) (F : List SP) (hrs0_0 : Kd.C (Kd.int .u8) w0 A0_0 s0_0.length s0_0) (hcs0_0 : s0_0.length ≤ c0_0) (hM : Mem w0 F w [box 81 g [.slice A0_0 s0_0.length c0_0, .int .i64 s0_1, .int .i64 s0_2]]) (h : spec_l01Below.f s0_0 s0_1 s0_2 a1 = some (r1, r2, r3)) :
  Calls Try.prog 58 #[.pointer (some ⟨g, 0, none⟩), .int .i64 a1] w fun e w' => e = .returned (.int .i64 r1) ∧ Mem w0 F w' [box 81 g [.slice A0_0 s0_0.length c0_0, .int .i64 r2, .int .i64 r3]] := by
 have HRs0_0 := Aside0.mk hrs0_0
 have HCs0_0 := Aside0.mk hcs0_0
 clear hrs0_0 hcs0_0
 have HM := hM
 clear hM
 have H := h
 clear h
 unfold spec_l01Below.f at H
 go_enter Try.func58, Try.ntmps58
 go_upto_if 10 with (fail)
 replace H := IT H; rcases H with ⟨c3, H⟩ | ⟨c3, H⟩
 ·have c3b0 : decide (a1 ≤ 0) = true := decide_eq_true c3
  clear c3
  (first | rw [c3b0] | (simp only [i64_w, i32_w]; rw [c3b0]) | skip)
  simp only [Option.some.injEq, Prod.mk.injEq] at H
  obtain ⟨rfl, rfl, rfl⟩ := H
  go_wp2
  go_ret
  exact ⟨ER, (MD HM).pick [0]⟩
 ·have c3b0 : decide (a1 ≤ 0) = false := decide_eq_false c3
  clear c3
  (first | rw [c3b0] | (simp only [i64_w, i32_w]; rw [c3b0]) | skip)
  go_upto_if 12 with (fail)
  replace H := IT H; rcases H with ⟨c4, H⟩ | ⟨c4, H⟩
  ·have c4b0 : decide (a1 ≤ 256) = true := decide_eq_true c4
   clear c4
   (first | rw [c4b0] | (simp only [i64_w, i32_w]; rw [c4b0]) | skip)
   replace H := BN H; obtain ⟨⟨t1530, t1531, t1532⟩, A5, H⟩ := H
   replace H := GN H; obtain ⟨c7, H⟩ := H
   have c7b0 : (a1 == 0) = false := beq_eq_false_iff_ne.mpr c7
   have c7b1 : (a1 != 0) = true := bne_iff_ne.mpr c7
   simp only [Option.some.injEq, Prod.mk.injEq] at H
   obtain ⟨rfl, rfl, rfl⟩ := H
   go_wp2_with (first | ((with_reducible refine gC 81 rfl ?_); refine pC (some 14) rfl #[.pointer (some ⟨g, 0, none⟩)] rfl Try.func81 (spec_l01Byte.calls g A0_0 c0_0 s0_0 s0_1 s0_2 t1530 t1531 t1532 _ _ _ HRs0_0.out HCs0_0.out (HM.focus [] [0]) A5.out) ?_; rintro e w6 ⟨rfl, hR⟩; refine ⟨_, rfl, ?_⟩; replace HM := nzM hR.unfocus; clear hR))
   go_ret
   exact ⟨ER, (MD HM).pick [0]⟩
  ·have c4b0 : decide (a1 ≤ 256) = false := decide_eq_false c4
   clear c4
   (first | rw [c4b0] | (simp only [i64_w, i32_w]; rw [c4b0]) | skip)
   replace H := BN H; obtain ⟨⟨t1533, t1534, t1535⟩, A8, H⟩ := H
   replace H := BN H; obtain ⟨⟨t1536, t1537, t1538⟩, A10, H⟩ := H
   replace H := BN H; obtain ⟨⟨t1539, t1540, t1541⟩, A12, H⟩ := H
   replace H := BN H; obtain ⟨⟨t1542, t1543, t1544⟩, A14, H⟩ := H
   replace H := GN H; obtain ⟨c16, H⟩ := H
   have c16b0 : (a1 == 0) = false := beq_eq_false_iff_ne.mpr c16
   have c16b1 : (a1 != 0) = true := bne_iff_ne.mpr c16
   simp only [Option.some.injEq, Prod.mk.injEq] at H
   obtain ⟨rfl, rfl, rfl⟩ := H
   go_wp2_with (first | ((with_reducible refine gC 81 rfl ?_); refine pC (some 18) rfl #[.pointer (some ⟨g, 0, none⟩)] rfl Try.func81 (spec_l01Byte.calls g A0_0 c0_0 s0_0 s0_1 s0_2 t1533 t1534 t1535 _ _ _ HRs0_0.out HCs0_0.out (HM.focus [] [0]) A8.out) ?_; rintro e w9 ⟨rfl, hR⟩; refine ⟨_, rfl, ?_⟩; replace HM := nzM hR.unfocus; clear hR) | ((with_reducible refine gC 81 rfl ?_); refine pC (some 20) rfl #[.pointer (some ⟨g, 0, none⟩)] rfl Try.func81 (spec_l01Byte.calls g A0_0 c0_0 s0_0 t1534 t1535 t1536 t1537 t1538 _ _ _ HRs0_0.out HCs0_0.out (HM.focus [] [0]) A10.out) ?_; rintro e w11 ⟨rfl, hR⟩; refine ⟨_, rfl, ?_⟩; replace HM := nzM hR.unfocus; clear hR) | ((with_reducible refine gC 81 rfl ?_); refine pC (some 22) rfl #[.pointer (some ⟨g, 0, none⟩)] rfl Try.func81 (spec_l01Byte.calls g A0_0 c0_0 s0_0 t1537 t1538 t1539 t1540 t1541 _ _ _ HRs0_0.out HCs0_0.out (HM.focus [] [0]) A12.out) ?_; rintro e w13 ⟨rfl, hR⟩; refine ⟨_, rfl, ?_⟩; replace HM := nzM hR.unfocus; clear hR) | ((with_reducible refine gC 81 rfl ?_); refine pC (some 24) rfl #[.pointer (some ⟨g, 0, none⟩)] rfl Try.func81 (spec_l01Byte.calls g A0_0 c0_0 s0_0 t1540 t1541 t1542 t1543 t1544 _ _ _ HRs0_0.out HCs0_0.out (HM.focus [] [0]) A14.out) ?_; rintro e w15 ⟨rfl, hR⟩; refine ⟨_, rfl, ?_⟩; replace HM := nzM hR.unfocus; clear hR))
   go_ret
   exact ⟨ER, (MD HM).pick [0]⟩
def spec_l01Of.f (s0_0 : List Int) (s0_1 : Int) (s0_2 : Int) (l1 : List ByteArray) : Option (ByteArray × Int × Int) := (spec_l01Below.f s0_0 s0_1 s0_2 (l1.length : Int)).bind fun bt1545 => (if 0 ≤ bt1545.1 then (if bt1545.1 < (l1.length : Int) then (some (rdOf ByteArray.empty l1 bt1545.1, bt1545.2.1, bt1545.2.2)) else (none)) else (none))
set_option maxHeartbeats 8000000 in
set_option maxRecDepth 100000 in
theorem spec_l01Of.calls (g : Nat) (A0_0 : Option Addr) (c0_0 : Nat) (s0_0 : List Int) (s0_1 : Int) (s0_2 : Int) (A1 : Option Addr) (c1 : Nat) (l1 : List ByteArray) (r1 : ByteArray) (r2 : Int) (r3 : Int) (w0 w : World) (F : List SP) (hrs0_0 : Kd.C (Kd.int .u8) w0 A0_0 s0_0.length s0_0) (hcs0_0 : s0_0.length ≤ c0_0) (hM : Mem w0 F w [box 81 g [.slice A0_0 s0_0.length c0_0, .int .i64 s0_1, .int .i64 s0_2], row Kd.string 9 (.slice A1 l1.length c1) l1]) (h : spec_l01Of.f s0_0 s0_1 s0_2 l1 = some (r1, r2, r3)) :
  Calls Try.prog 101 #[.pointer (some ⟨g, 0, none⟩), .slice A1 l1.length c1] w fun e w' => e = .returned (.string r1) ∧ Mem w0 F w' [box 81 g [.slice A0_0 s0_0.length c0_0, .int .i64 r2, .int .i64 r3], row Kd.string 9 (.slice A1 l1.length c1) l1] := by
 have HRs0_0 := Aside0.mk hrs0_0
 have HCs0_0 := Aside0.mk hcs0_0
 clear hrs0_0 hcs0_0
 have HM := hM
 clear hM
 have H := h
 clear h
 unfold spec_l01Of.f at H
 go_enter Try.func101, Try.ntmps101
 replace H := BN H; obtain ⟨⟨t1545, t1546, t1547⟩, A3, H⟩ := H
 replace H := GD H; obtain ⟨c5, H⟩ := H
 have c5b0 : decide (0 ≤ t1545) = true := decide_eq_true c5
 clear c5
 replace H := GD H; obtain ⟨c6, H⟩ := H
 have c6b0 : decide (t1545 < (l1.length : Int)) = true := decide_eq_true c6
 clear c6
 simp only [Option.some.injEq, Prod.mk.injEq] at H
 obtain ⟨rfl, rfl, rfl⟩ := H
 go_wp2_with (first | ((with_reducible refine gC 58 rfl ?_); refine pC (some 9) rfl #[.pointer (some ⟨g, 0, none⟩), .int .i64 (l1.length : Int)] rfl Try.func58 (spec_l01Below.calls g A0_0 c0_0 s0_0 s0_1 s0_2 (l1.length : Int) t1545 t1546 t1547 _ _ _ HRs0_0.out HCs0_0.out (HM.focus [1] [0]) A3.out) ?_; rintro e w4 ⟨rfl, hR⟩; refine ⟨_, rfl, ?_⟩; replace HM := nzM hR.unfocus; clear hR; have p1548 : 0 ≤ (t1545 : Int) := of_decide_eq_true AS; have q1548 : (t1545 : Int) < (l1.length : Int) := of_decide_eq_true AS; obtain ⟨ad1548, e1548, hx1548_0⟩ := Kd.at_string (HM.C 0 rfl).2.2 t1545 p1548 q1548; cases e1548; replace p1548 := eq_true p1548; replace q1548 := eq_true q1548))
 go_ret
 exact ⟨ER, (MD HM).pick [1, 0]⟩
def spec_l10Key.f (s0_0 : List Int) (s0_1 : Int) (s0_2 : Int) : Option (ByteArray × Int × Int) := (spec_l01Of.f s0_0 s0_1 s0_2 (([(⟨#[97]⟩ : ByteArray), (⟨#[98]⟩ : ByteArray), (⟨#[99]⟩ : ByteArray), (⟨#[100]⟩ : ByteArray), (⟨#[101]⟩ : ByteArray), (⟨#[102]⟩ : ByteArray), (⟨#[103]⟩ : ByteArray), (⟨#[104]⟩ : ByteArray)] : List ByteArray))).bind fun bt1552 => (some (bt1552.1, bt1552.2.1, bt1552.2.2))
set_option maxHeartbeats 8000000 in
set_option maxRecDepth 100000 in
theorem spec_l10Key.calls (g : Nat) (A0_0 : Option Addr) (c0_0 : Nat) (s0_0 : List Int) (s0_1 : Int) (s0_2 : Int) (r1 : ByteArray) (r2 : Int) (r3 : Int) (w0 w : World) (F : List SP) (hrs0_0 : Kd.C (Kd.int .u8) w0 A0_0 s0_0.length s0_0) (hcs0_0 : s0_0.length ≤ c0_0) (hM : Mem w0 F w [box 81 g [.slice A0_0 s0_0.length c0_0, .int .i64 s0_1, .int .i64 s0_2]]) (h : spec_l10Key.f s0_0 s0_1 s0_2 = some (r1, r2, r3)) :
  Calls Try.prog 80 #[.pointer (some ⟨g, 0, none⟩)] w fun e w' => e = .returned (.string r1) ∧ Mem w0 F w' [box 81 g [.slice A0_0 s0_0.length c0_0, .int .i64 r2, .int .i64 r3]] := by
 have HRs0_0 := Aside0.mk hrs0_0
 have HCs0_0 := Aside0.mk hcs0_0
 clear hrs0_0 hcs0_0
 have HM := hM
 clear hM
 have H := h
 clear h
 unfold spec_l10Key.f at H
 go_enter Try.func80, Try.ntmps80
 replace H := BN H; obtain ⟨⟨t1552, t1553, t1554⟩, A3, H⟩ := H
 simp only [Option.some.injEq, Prod.mk.injEq] at H
 obtain ⟨rfl, rfl, rfl⟩ := H
 go_wp2_with (first | ((with_reducible refine gN 4 rfl ?_); refine pL 4 Kd.string 9 ([(⟨#[97]⟩ : ByteArray), (⟨#[98]⟩ : ByteArray), (⟨#[99]⟩ : ByteArray), (⟨#[100]⟩ : ByteArray), (⟨#[101]⟩ : ByteArray), (⟨#[102]⟩ : ByteArray), (⟨#[103]⟩ : ByteArray), (⟨#[104]⟩ : ByteArray)] : List ByteArray) [.string (⟨#[97]⟩ : ByteArray), .string (⟨#[98]⟩ : ByteArray), .string (⟨#[99]⟩ : ByteArray), .string (⟨#[100]⟩ : ByteArray), .string (⟨#[101]⟩ : ByteArray), .string (⟨#[102]⟩ : ByteArray), .string (⟨#[103]⟩ : ByteArray), .string (⟨#[104]⟩ : ByteArray)] (Reps.one (show Kd.M Kd.string _ _ _ (⟨#[97]⟩ : ByteArray) [.string (⟨#[97]⟩ : ByteArray)] from rfl) (Reps.one (show Kd.M Kd.string _ _ _ (⟨#[98]⟩ : ByteArray) [.string (⟨#[98]⟩ : ByteArray)] from rfl) (Reps.one (show Kd.M Kd.string _ _ _ (⟨#[99]⟩ : ByteArray) [.string (⟨#[99]⟩ : ByteArray)] from rfl) (Reps.one (show Kd.M Kd.string _ _ _ (⟨#[100]⟩ : ByteArray) [.string (⟨#[100]⟩ : ByteArray)] from rfl) (Reps.one (show Kd.M Kd.string _ _ _ (⟨#[101]⟩ : ByteArray) [.string (⟨#[101]⟩ : ByteArray)] from rfl) (Reps.one (show Kd.M Kd.string _ _ _ (⟨#[102]⟩ : ByteArray) [.string (⟨#[102]⟩ : ByteArray)] from rfl) (Reps.one (show Kd.M Kd.string _ _ _ (⟨#[103]⟩ : ByteArray) [.string (⟨#[103]⟩ : ByteArray)] from rfl) (Reps.one (show Kd.M Kd.string _ _ _ (⟨#[104]⟩ : ByteArray) [.string (⟨#[104]⟩ : ByteArray)] from rfl) (Reps.none _ _))))))))) HM rfl ?_; clear HM; intro v1550 w2 HM; obtain ⟨Xo5, ko5, eo5⟩ := HM.rdR 1 rfl; subst eo5; replace HM := HM.toQ 1 rfl) | ((with_reducible refine gC 101 rfl ?_); refine pC (some 5) rfl #[.pointer (some ⟨g, 0, none⟩), .slice Xo5 (([(⟨#[97]⟩ : ByteArray), (⟨#[98]⟩ : ByteArray), (⟨#[99]⟩ : ByteArray), (⟨#[100]⟩ : ByteArray), (⟨#[101]⟩ : ByteArray), (⟨#[102]⟩ : ByteArray), (⟨#[103]⟩ : ByteArray), (⟨#[104]⟩ : ByteArray)] : List ByteArray)).length ko5] rfl Try.func101 (spec_l01Of.calls g A0_0 c0_0 s0_0 s0_1 s0_2 Xo5 ko5 (([(⟨#[97]⟩ : ByteArray), (⟨#[98]⟩ : ByteArray), (⟨#[99]⟩ : ByteArray), (⟨#[100]⟩ : ByteArray), (⟨#[101]⟩ : ByteArray), (⟨#[102]⟩ : ByteArray), (⟨#[103]⟩ : ByteArray), (⟨#[104]⟩ : ByteArray)] : List ByteArray)) t1552 t1553 t1554 _ _ _ HRs0_0.out HCs0_0.out (HM.focus [] [0, 1]) A3.out) ?_; rintro e w4 ⟨rfl, hR⟩; refine ⟨_, rfl, ?_⟩; replace HM := nzM hR.unfocus; clear hR))
 go_ret
 exact ⟨ER, (MD HM).pick [0]⟩
mutual
def spec_l12Asks.l0 : Nat → List ByteArray → Int → List Int → Int → Int → Option (List ByteArray × Int × Int)
 | 0, _, _, _, _, _ => none
 | k + 1, x5, x6, x1000, x1001, x1002 => if x6 > 0 then ((spec_l01Below.f x1000 x1001 x1002 3).bind fun bt1561 => (if bt1561.1 = 0 then (spec_l12Asks.j1 k x5 x6 (decide ((x5.length : Int) > 0)) x1000 bt1561.2.1 bt1561.2.2) else (spec_l12Asks.j1 k x5 x6 false x1000 bt1561.2.1 bt1561.2.2))) else (some (x5, x1001, x1002))
def spec_l12Asks.j1 : Nat → List ByteArray → Int → Bool → List Int → Int → Int → Option (List ByteArray × Int × Int)
 | 0, _, _, _, _, _, _ => none
 | k + 1, x5, x6, x25, x1000, x1001, x1002 => if x25 = true then ((spec_l01Below.f x1000 x1001 x1002 (x5.length : Int)).bind fun bt1564 => (if 0 ≤ bt1564.1 then (if bt1564.1 < (x5.length : Int) then (if x5.length < 8796093022208 then (spec_l12Asks.l0 k (x5 ++ [rdOf ByteArray.empty x5 bt1564.1]) (wrap64 (x6 - 1)) x1000 bt1564.2.1 bt1564.2.2) else (none)) else (none)) else (none))) else ((spec_l10Key.f x1000 x1001 x1002).bind fun bt1571 => (if x5.length < 8796093022208 then (spec_l12Asks.l0 k (x5 ++ [bt1571.1]) (wrap64 (x6 - 1)) x1000 bt1571.2.1 bt1571.2.2) else (none)))
end
def spec_l12Asks.f (k : Nat) (s0_0 : List Int) (s0_1 : Int) (s0_2 : Int) (a1 : Int) : Option (List ByteArray × Int × Int) := (spec_l01Below.f s0_0 s0_1 s0_2 (wrap64 (a1 + 1))).bind fun bt1558 => (spec_l12Asks.l0 k (([] : List ByteArray)) bt1558.1 s0_0 bt1558.2.1 bt1558.2.2)
set_option maxHeartbeats 8000000 in
set_option maxRecDepth 100000 in
theorem spec_l12Asks.calls (k : Nat) (g : Nat) (A0_0 : Option Addr) (c0_0 : Nat) (s0_0 : List Int) (s0_1 : Int) (s0_2 : Int) (a1 : Int) (r1 : List ByteArray) (r2 : Int) (r3 : Int) (w0 w : World) (F : List SP) (hrs0_0 : Kd.C (Kd.int .u8) w0 A0_0 s0_0.length s0_0) (hcs0_0 : s0_0.length ≤ c0_0) (hM : Mem w0 F w [box 81 g [.slice A0_0 s0_0.length c0_0, .int .i64 s0_1, .int .i64 s0_2]]) (h : spec_l12Asks.f k s0_0 s0_1 s0_2 a1 = some (r1, r2, r3)) :
  Calls Try.prog 57 #[.pointer (some ⟨g, 0, none⟩), .int .i64 a1] w fun e w' => ∃ v0_ : Value, e = .returned (v0_) ∧ Mem w0 F w' [rowR Kd.string 9 v0_ r1, box 81 g [.slice A0_0 s0_0.length c0_0, .int .i64 r2, .int .i64 r3]] := by
 have HRs0_0 := Aside0.mk hrs0_0
 have HCs0_0 := Aside0.mk hcs0_0
 clear hrs0_0 hcs0_0
 have HM := hM
 clear hM
 have H := h
 clear h
 unfold spec_l12Asks.f at H
 go_enter Try.func57, Try.ntmps57
 replace H := BN H; obtain ⟨⟨t1558, t1559, t1560⟩, A4, H⟩ := H
 have H' := Aside0.mk H
 clear H
 go_wp2_with (first | ((with_reducible refine gN 8 rfl ?_); refine pL 8 Kd.string 9 ([] : List ByteArray) [] (Reps.none _ _) HM rfl ?_; clear HM; intro v1556 w3 HM) | ((with_reducible refine gC 58 rfl ?_); refine pC (some 12) rfl #[.pointer (some ⟨g, 0, none⟩), .int .i64 (wrap64 (a1 + 1))] rfl Try.func58 (spec_l01Below.calls g A0_0 c0_0 s0_0 s0_1 s0_2 (wrap64 (a1 + 1)) t1558 t1559 t1560 _ _ _ HRs0_0.out HCs0_0.out (HM.focus [1] [0]) A4.out) ?_; rintro e w5 ⟨rfl, hR⟩; refine ⟨_, rfl, ?_⟩; replace HM := nzM hR.unfocus; clear hR))
 go_loopg [5, 6] k (fun kq v5 v6 w' => ∃ (x5_1 : List ByteArray) (x6_1 : Int) (x1001_1 : Int) (x1002_1 : Int), v6 = .int .i64 x6_1 ∧ Aside0 (spec_l12Asks.l0 kq x5_1 x6_1 s0_0 x1001_1 x1002_1 = some (r1, r2, r3)) ∧ Aside0 (kq ≤ k) ∧ Mem w0 F w' [rowR Kd.string 9 v5 x5_1, box 81 g [.slice A0_0 s0_0.length c0_0, .int .i64 x1001_1, .int .i64 x1002_1]])
 case atStart => exact ⟨((([] : List ByteArray))), (t1558), (t1559), (t1560), RS, H', ⟨Nat.le_refl _⟩, (MD HM).pick [0, 1]⟩
 case round =>
  clear H' HM
  obtain ⟨x5_1, x6_1, x1001_1, x1002_1, rfl, HA, HK1, HM⟩ := hrel
  cases gk with
  | zero => exact absurd HA.out (by simp [spec_l12Asks.l0])
  | succ k1 =>
   have H := HA.out
   clear HA
   simp only [spec_l12Asks.l0] at H
   go_upto_if 14 with (fail)
   replace H := IT H; rcases H with ⟨c6, H⟩ | ⟨c6, H⟩
   ·have c6b0 : decide (0 < x6_1) = true := decide_eq_true c6
    clear c6
    (first | rw [c6b0] | (simp only [i64_w, i32_w]; rw [c6b0]) | skip)
    replace H := BN H; obtain ⟨⟨t1561, t1562, t1563⟩, A7, H⟩ := H
    have HC9 := Aside0.mk H
    clear H
    go_upto_region 6 with (first | ((with_reducible refine gC 58 rfl ?_); refine pC (some 18) rfl #[.pointer (some ⟨g, 0, none⟩), .int .i64 3] rfl Try.func58 (spec_l01Below.calls g A0_0 c0_0 s0_0 x1001_1 x1002_1 3 t1561 t1562 t1563 _ _ _ HRs0_0.out HCs0_0.out (HM.focus [0] [1]) A7.out) ?_; rintro e w8 ⟨rfl, hR⟩; refine ⟨_, rfl, ?_⟩; replace HM := nzM hR.unfocus; clear hR))
    go_cut [25] (fun v25 wc => ∃ (kq : Nat) (x25_8 : Bool), v25 = .bool x25_8 ∧ Aside0 (spec_l12Asks.j1 kq x5_1 x6_1 x25_8 s0_0 t1562 t1563 = some (r1, r2, r3)) ∧ Aside0 (kq ≤ k1) ∧ Mem w0 F wc [rowR Kd.string 9 u5 x5_1, box 81 g [.slice A0_0 s0_0.length c0_0, .int .i64 t1562, .int .i64 t1563]])
    case first =>
     have H := HC9.out
     clear HC9
     replace H := IT H; rcases H with ⟨c10, H⟩ | ⟨c10, H⟩
     ·have c10b0 : (t1561 == 0) = true := beq_iff_eq.mpr c10
      have c10b1 : (t1561 != 0) = false := bne_eq_false_iff_eq.mpr c10
      clear c10
      have H' := Aside0.mk H
      clear H
      obtain ⟨Xo11, ko11, eo11⟩ := HM.rdR 0 rfl
      subst eo11
      go_wp2
      go_meet
      case rel => exact ⟨_, (decide ((x5_1.length : Int) > 0)), RS, H', ⟨by have := HK1.out; first | omega | exact Nat.le_refl _⟩, (MD HM).pick [0, 1]⟩
     ·have c10b0 : (t1561 == 0) = false := beq_eq_false_iff_ne.mpr c10
      have c10b1 : (t1561 != 0) = true := bne_iff_ne.mpr c10
      have H' := Aside0.mk H
      clear H
      go_wp2
      go_meet
      case rel => exact ⟨_, (false), RS, H', ⟨by have := HK1.out; first | omega | exact Nat.le_refl _⟩, (MD HM).pick [0, 1]⟩
    case rest =>
     clear HC9 HM
     obtain ⟨kq, x25_8, rfl, HA, HJ8, HM⟩ := hcut
     cases kq with
     | zero => exact absurd HA.out (by simp [spec_l12Asks.j1])
     | succ kj8 =>
      have H := HA.out
      clear HA
      simp only [spec_l12Asks.j1] at H
      go_upto_if 25 with (fail)
      replace H := IB H
      rcases H with ⟨c12, H⟩ | ⟨c12, H⟩
      ·subst c12
       replace H := BN H; obtain ⟨⟨t1564, t1565, t1566⟩, A14, H⟩ := H
       replace H := GD H; obtain ⟨c16, H⟩ := H
       have c16b0 : decide (0 ≤ t1564) = true := decide_eq_true c16
       clear c16
       replace H := GD H; obtain ⟨c17, H⟩ := H
       have c17b0 : decide (t1564 < (x5_1.length : Int)) = true := decide_eq_true c17
       clear c17
       replace H := GD H; obtain ⟨c18, H⟩ := H
       have LMc18 := Aside0.mk c18
       clear c18
       have H' := Aside0.mk H
       clear H
       obtain ⟨Xo13, ko13, eo13⟩ := HM.rdR 0 rfl
       subst eo13
       go_wp2_with (first | ((with_reducible refine gC 58 rfl ?_); refine pC (some 31) rfl #[.pointer (some ⟨g, 0, none⟩), .int .i64 (x5_1.length : Int)] rfl Try.func58 (spec_l01Below.calls g A0_0 c0_0 s0_0 t1562 t1563 (x5_1.length : Int) t1564 t1565 t1566 _ _ _ HRs0_0.out HCs0_0.out (HM.focus [0] [1]) A14.out) ?_; rintro e w15 ⟨rfl, hR⟩; refine ⟨_, rfl, ?_⟩; replace HM := nzM hR.unfocus; clear hR; have p1567 : 0 ≤ (t1564 : Int) := of_decide_eq_true AS; have q1567 : (t1564 : Int) < (x5_1.length : Int) := of_decide_eq_true AS; obtain ⟨ad1567, e1567, hx1567_0⟩ := Kd.at_string (HM.CR 0 rfl).2.2 t1564 p1567 q1567; cases e1567; replace p1567 := eq_true p1567; replace q1567 := eq_true q1567) | ((with_reducible refine gN 34 rfl ?_); refine pL 34 Kd.string 9 [rdOf ByteArray.empty x5_1 t1564] [.string (rdOf ByteArray.empty x5_1 t1564)] (Reps.one (show Kd.M Kd.string _ _ _ (rdOf ByteArray.empty x5_1 t1564) [.string (rdOf ByteArray.empty x5_1 t1564)] from rfl) (Reps.none _ _)) HM rfl ?_; clear HM; intro v20 w19 HM; obtain ⟨Xv20, kv20, ev20⟩ := HM.rdR 2 rfl; subst ev20) | ((with_reducible refine gate_builtin (b := .append) (xs := #[.tmp 26, .tmp 34]) rfl ?_); refine pA 0 (.tmp 26) (.tmp 34) 24 9 Kd.string (.slice (some ad1567) x5_1.length ko13) x5_1 [rdOf ByteArray.empty x5_1 t1564] Xv20 ([rdOf ByteArray.empty x5_1 t1564].length) kv20 HM rfl Try.underlying24 info9 rfl (HM.CR 2 rfl).2.2 (by have h_ := LMc18.out; simp only [List.length_singleton]; omega) ?_; clear HM; intro v1569 w21 HM))
       go_roundg kj8
       case measure => have := HK1.out; have := HJ8.out; omega
       case rel => exact ⟨((x5_1 ++ [rdOf ByteArray.empty x5_1 t1564])), (wrap64 (x6_1 - 1)), (t1565), (t1566), RS, H', ⟨by have := HK1.out; have := HJ8.out; omega⟩, (MD HM).pick [0, 1]⟩
      ·subst c12
       replace H := BN H; obtain ⟨⟨t1571, t1572, t1573⟩, A22, H⟩ := H
       replace H := GD H; obtain ⟨c24, H⟩ := H
       have LMc24 := Aside0.mk c24
       clear c24
       have H' := Aside0.mk H
       clear H
       go_wp2_with (first | ((with_reducible refine gC 80 rfl ?_); refine pC (some 38) rfl #[.pointer (some ⟨g, 0, none⟩)] rfl Try.func80 (spec_l10Key.calls g A0_0 c0_0 s0_0 t1562 t1563 t1571 t1572 t1573 _ _ _ HRs0_0.out HCs0_0.out (HM.focus [0] [1]) A22.out) ?_; rintro e w23 ⟨rfl, hR⟩; refine ⟨_, rfl, ?_⟩; replace HM := nzM hR.unfocus; clear hR) | ((with_reducible refine gN 39 rfl ?_); refine pL 39 Kd.string 9 [t1571] [.string t1571] (Reps.one (show Kd.M Kd.string _ _ _ t1571 [.string t1571] from rfl) (Reps.none _ _)) HM rfl ?_; clear HM; intro v26 w25 HM; obtain ⟨Xv26, kv26, ev26⟩ := HM.rdR 2 rfl; subst ev26) | ((with_reducible refine gate_builtin (b := .append) (xs := #[.tmp 36, .tmp 39]) rfl ?_); refine pA 0 (.tmp 36) (.tmp 39) 24 9 Kd.string u5 x5_1 [t1571] Xv26 ([t1571].length) kv26 HM rfl Try.underlying24 info9 rfl (HM.CR 2 rfl).2.2 (by have h_ := LMc24.out; simp only [List.length_singleton]; omega) ?_; clear HM; intro v1575 w27 HM))
       go_roundg kj8
       case measure => have := HK1.out; have := HJ8.out; omega
       case rel => exact ⟨((x5_1 ++ [t1571])), (wrap64 (x6_1 - 1)), (t1572), (t1573), RS, H', ⟨by have := HK1.out; have := HJ8.out; omega⟩, (MD HM).pick [0, 1]⟩
   ·have c6b0 : decide (0 < x6_1) = false := decide_eq_false c6
    clear c6
    (first | rw [c6b0] | (simp only [i64_w, i32_w]; rw [c6b0]) | skip)
    simp only [Option.some.injEq, Prod.mk.injEq] at H
    obtain ⟨rfl, rfl, rfl⟩ := H
    go_wp2
    go_ret
    exact ⟨_, ER, (MD HM).pick [0, 1]⟩
def spec_MakeAsks.f (k : Nat) (l0 : List Int) (a1 : Int) : Option (List ByteArray) := (spec_l01New.f k l0).bind fun bt1577 => ((spec_l12Asks.f k bt1577.1 bt1577.2.1 (wrap64 (bt1577.2.2 + 17)) a1).bind fun bt1581 => (some bt1581.1))
set_option maxHeartbeats 8000000 in
set_option maxRecDepth 100000 in
theorem spec_MakeAsks.calls (k : Nat) (A0 : Option Addr) (c0 : Nat) (l0 : List Int) (a1 : Int) (r : List ByteArray) (w : World) (hr0 : Kd.C (Kd.int .u8) w A0 l0.length l0) (hc0 : l0.length ≤ c0) (h : spec_MakeAsks.f k l0 a1 = some r) :
  Calls Try.prog 28 #[.slice A0 l0.length c0, .int .i64 a1] w fun e w' => ∃ v0_ : Value, e = .returned (v0_) ∧ Mem w [] w' [rowR Kd.string 9 v0_ r] := by
 have HR0 := Aside0.mk hr0
 have HC0 := Aside0.mk hc0
 clear hr0 hc0
 have HM := Mem.nil w
 have H := h
 clear h
 unfold spec_MakeAsks.f at H
 go_enter Try.func28, Try.ntmps28
 replace H := BN H; obtain ⟨⟨t1577, t1578, t1579⟩, A3, H⟩ := H
 replace H := BN H; obtain ⟨⟨t1581, t1584, t1585⟩, A8, H⟩ := H
 obtain rfl := Option.some.inj H
 go_wp2_with (first | ((with_reducible refine gC 56 rfl ?_); refine pC (some 8) rfl #[.slice A0 l0.length c0] rfl Try.func56 (spec_l01New.calls k _ _ l0 t1577 t1578 t1579 _ _ HM.bel HR0.out HC0.out A3.out) ?_; rintro e w4 ⟨gb1580, Xn5, kn5, rfl, hR, hRn5, hCn5⟩; refine ⟨_, rfl, ?_⟩; have HRn5 := Aside0.mk hRn5; have HCn5 := Aside0.mk hCn5; clear hRn5 hCn5; replace HM := HM.call hR; clear hR; obtain ⟨z6_0, z6_1, z6_2, Z6_0, Z6_1, Z6_2⟩ := bk3 (HM.bx 0 rfl)) | ((with_reducible refine gS 16 rfl ?_); refine pS 0 16 2 [.int .i64 (wrap64 (t1579 + 17))] HM rfl rfl ?_; clear HM; intro w7 HM) | ((with_reducible refine gC 57 rfl ?_); refine pC (some 19) rfl #[.pointer (some ⟨gb1580, 0, none⟩), .int .i64 a1] rfl Try.func57 (spec_l12Asks.calls k gb1580 Xn5 kn5 t1577 t1578 (wrap64 (t1579 + 17)) a1 t1581 t1584 t1585 _ _ _ HRn5.out HCn5.out (HM.focus [] [0]) A8.out) ?_; rintro e w9 ⟨v1582, rfl, hR⟩; refine ⟨_, rfl, ?_⟩; replace HM := nzM hR.unfocus; clear hR))
 go_ret
 exact ⟨_, ER, (MD HM).pick [0]⟩
def spec_MakeNum.f (k : Nat) (l0 : List Int) (a1 : Int) : Option (Int) := (spec_l01New.f k l0).bind fun bt1586 => ((spec_l01Below.f bt1586.1 bt1586.2.1 (wrap64 (bt1586.2.2 + 777)) a1).bind fun bt1590 => (some bt1590.1))
set_option maxHeartbeats 8000000 in
set_option maxRecDepth 100000 in
theorem spec_MakeNum.calls (k : Nat) (A0 : Option Addr) (c0 : Nat) (l0 : List Int) (a1 : Int) (r : Int) (w : World) (hr0 : Kd.C (Kd.int .u8) w A0 l0.length l0) (hc0 : l0.length ≤ c0) (h : spec_MakeNum.f k l0 a1 = some r) :
  Calls Try.prog 29 #[.slice A0 l0.length c0, .int .i64 a1] w fun e w' => e = .returned (.int .i64 r) ∧ Mem w [] w' [] := by
 have HR0 := Aside0.mk hr0
 have HC0 := Aside0.mk hc0
 clear hr0 hc0
 have HM := Mem.nil w
 have H := h
 clear h
 unfold spec_MakeNum.f at H
 go_enter Try.func29, Try.ntmps29
 replace H := BN H; obtain ⟨⟨t1586, t1587, t1588⟩, A3, H⟩ := H
 replace H := BN H; obtain ⟨⟨t1590, t1591, t1592⟩, A8, H⟩ := H
 obtain rfl := Option.some.inj H
 go_wp2_with (first | ((with_reducible refine gC 56 rfl ?_); refine pC (some 7) rfl #[.slice A0 l0.length c0] rfl Try.func56 (spec_l01New.calls k _ _ l0 t1586 t1587 t1588 _ _ HM.bel HR0.out HC0.out A3.out) ?_; rintro e w4 ⟨gb1589, Xn5, kn5, rfl, hR, hRn5, hCn5⟩; refine ⟨_, rfl, ?_⟩; have HRn5 := Aside0.mk hRn5; have HCn5 := Aside0.mk hCn5; clear hRn5 hCn5; replace HM := HM.call hR; clear hR; obtain ⟨z6_0, z6_1, z6_2, Z6_0, Z6_1, Z6_2⟩ := bk3 (HM.bx 0 rfl)) | ((with_reducible refine gS 15 rfl ?_); refine pS 0 15 2 [.int .i64 (wrap64 (t1588 + 777))] HM rfl rfl ?_; clear HM; intro w7 HM) | ((with_reducible refine gC 58 rfl ?_); refine pC (some 18) rfl #[.pointer (some ⟨gb1589, 0, none⟩), .int .i64 a1] rfl Try.func58 (spec_l01Below.calls gb1589 Xn5 kn5 t1586 t1587 (wrap64 (t1588 + 777)) a1 t1590 t1591 t1592 _ _ _ HRn5.out HCn5.out (HM.focus [] [0]) A8.out) ?_; rintro e w9 ⟨rfl, hR⟩; refine ⟨_, rfl, ?_⟩; replace HM := nzM hR.unfocus; clear hR))
 go_ret
 exact ⟨ER, (MD HM).pick []⟩
end Go.Proofs.Ytanakbmhclpamaa.G

namespace Go.Proofs.Ytanakbmhclpamaa.G
open Go.RowKit Go.Proofs.YtanakbmhclpamaaW.PrintWords Go.Proofs.YtanakbmhclpamaaW.PrintLast Go.Proofs.YtanakbmhclpamaaW.PrintMore Go.Proofs.Ytanakbmhclpamaa.Sh
attribute [local go_sem] max2_int min2_int max_two min_two max_three min_three max_four min_four
set_option linter.unusedVariables false
set_option linter.unusedSimpArgs false
def laws_sameTexts.l0 : Nat → List ByteArray → List ByteArray → Int → Int → Option (Bool)
 | 0, _, _, _, _ => none
 | k + 1, x0, x1, x12, x13 => if x13 < x12 then (if 0 ≤ x13 then (if x13 < (x0.length : Int) then (if x13 < (x1.length : Int) then (if (rdOf ByteArray.empty x0 x13).toList = (rdOf ByteArray.empty x1 x13).toList then (laws_sameTexts.l0 k x0 x1 x12 (wrap64 (x13 + 1))) else (some false)) else (none)) else (none)) else (none)) else (some true)
def laws_sameTexts.f (k : Nat) (l0 : List ByteArray) (l1 : List ByteArray) : Option (Bool) := if (l0.length : Int) = (l1.length : Int) then (laws_sameTexts.l0 k l0 l1 (l0.length : Int) 0) else (some false)
set_option maxHeartbeats 8000000 in
set_option maxRecDepth 100000 in
theorem laws_sameTexts.calls (k : Nat) (A0 : Option Addr) (c0 : Nat) (l0 : List ByteArray) (A1 : Option Addr) (c1 : Nat) (l1 : List ByteArray) (r : Bool) (w : World) (hr0 : Kd.C Kd.string w A0 l0.length l0) (hc0 : l0.length ≤ c0) (hr1 : Kd.C Kd.string w A1 l1.length l1) (hc1 : l1.length ≤ c1) (h : laws_sameTexts.f k l0 l1 = some r) :
  Calls Try.prog 30 #[.slice A0 l0.length c0, .slice A1 l1.length c1] w fun e w' => e = .returned (.bool r) ∧ Drawn0 w w' := by
 have HR0 := Aside0.mk hr0
 have HC0 := Aside0.mk hc0
 clear hr0 hc0
 have HR1 := Aside0.mk hr1
 have HC1 := Aside0.mk hc1
 clear hr1 hc1
 have H : (if (l0.length : Int) = (l1.length : Int) then (laws_sameTexts.l0 k l0 l1 (l0.length : Int) 0) else (some false)) = some r := h
 clear h
 by_cases c3 : (l0.length : Int) = (l1.length : Int)
 ·rw [if_pos c3] at H
  have c3b0 : ((l0.length : Int) == (l1.length : Int)) = true := beq_iff_eq.mpr c3
  have c3b1 : ((l0.length : Int) != (l1.length : Int)) = false := bne_eq_false_iff_eq.mpr c3
  have c3b2 : (l0.length == l1.length) = true := by first | simpa using c3 | (simp at c3 ⊢; omega)
  clear c3
  have H' := Aside0.mk H
  clear H
  go_enter Try.func30, Try.ntmps30
  go_wp2
  repeat (go_quiet (fail); try go_wp2)
  go_loopg [13] k (fun kq v13 w' => ∃ (x13_1 : Int), v13 = .int .i64 x13_1 ∧ Aside0 (laws_sameTexts.l0 kq l0 l1 (l0.length : Int) x13_1 = some r) ∧ Aside0 (kq ≤ k) ∧ Drawn0 w w')
  case atStart => exact ⟨(0), RS, H', ⟨Nat.le_refl _⟩, DR⟩
  case round =>
   clear H'
   try clear c1
   try clear p2
   try clear c3
   try clear c3b0
   try clear c3b1
   try clear c3b2
   obtain ⟨x13_1, rfl, HA, HK1, ⟨m1, rfl⟩⟩ := hrel
   cases gk with
   | zero => exact absurd HA.out (by simp [laws_sameTexts.l0])
   | succ k1 =>
    have H := HA.out
    clear HA
    simp only [laws_sameTexts.l0] at H
    by_cases c4 : x13_1 < (l0.length : Int)
    ·rw [if_pos c4] at H
     have c4b0 : decide (x13_1 < (l0.length : Int)) = true := decide_eq_true c4
     clear c4
     by_cases c5 : 0 ≤ x13_1
     ·rw [if_pos c5] at H
      have c5b0 : decide (0 ≤ x13_1) = true := decide_eq_true c5
      clear c5
      by_cases c6 : x13_1 < (l0.length : Int)
      ·rw [if_pos c6] at H
       have c6b0 : decide (x13_1 < (l0.length : Int)) = true := decide_eq_true c6
       clear c6
       by_cases c7 : x13_1 < (l1.length : Int)
       ·rw [if_pos c7] at H
        have c7b0 : decide (x13_1 < (l1.length : Int)) = true := decide_eq_true c7
        clear c7
        by_cases c8 : (rdOf ByteArray.empty l0 x13_1).toList = (rdOf ByteArray.empty l1 x13_1).toList
        ·rw [if_pos c8] at H
         have c8b0 : ((rdOf ByteArray.empty l0 x13_1).toList == (rdOf ByteArray.empty l1 x13_1).toList) = true := beq_iff_eq.mpr c8
         have c8b1 : ((rdOf ByteArray.empty l0 x13_1).toList != (rdOf ByteArray.empty l1 x13_1).toList) = false := bne_eq_false_iff_eq.mpr c8
         clear c8
         have H' := Aside0.mk H
         clear H
         have p1595 : 0 ≤ (x13_1 : Int) := of_decide_eq_true AS
         have q1595 : x13_1 < (l0.length : Int) := of_decide_eq_true AS
         obtain ⟨ad1595, e1595, hx1595_0⟩ := Kd.at_string HR0.out x13_1 p1595 q1595
         cases e1595
         replace p1595 := eq_true p1595
         replace q1595 := eq_true q1595
         have p1596 : 0 ≤ (x13_1 : Int) := of_decide_eq_true AS
         have q1596 : x13_1 < (l1.length : Int) := of_decide_eq_true AS
         obtain ⟨ad1596, e1596, hx1596_0⟩ := Kd.at_string HR1.out x13_1 p1596 q1596
         cases e1596
         replace p1596 := eq_true p1596
         replace q1596 := eq_true q1596
         go_wp2
         repeat (go_quiet (fail); try go_wp2)
         go_roundg k1
         case measure => have := HK1.out; omega
         case rel => exact ⟨(wrap64 (x13_1 + 1)), RS, H', ⟨by have := HK1.out; omega⟩, DR⟩
        ·rw [if_neg c8] at H
         have c8b0 : ((rdOf ByteArray.empty l0 x13_1).toList == (rdOf ByteArray.empty l1 x13_1).toList) = false := beq_eq_false_iff_ne.mpr c8
         have c8b1 : ((rdOf ByteArray.empty l0 x13_1).toList != (rdOf ByteArray.empty l1 x13_1).toList) = true := bne_iff_ne.mpr c8
         obtain rfl := Option.some.inj H
         have p1595 : 0 ≤ (x13_1 : Int) := of_decide_eq_true AS
         have q1595 : x13_1 < (l0.length : Int) := of_decide_eq_true AS
         obtain ⟨ad1595, e1595, hx1595_0⟩ := Kd.at_string HR0.out x13_1 p1595 q1595
         cases e1595
         replace p1595 := eq_true p1595
         replace q1595 := eq_true q1595
         have p1596 : 0 ≤ (x13_1 : Int) := of_decide_eq_true AS
         have q1596 : x13_1 < (l1.length : Int) := of_decide_eq_true AS
         obtain ⟨ad1596, e1596, hx1596_0⟩ := Kd.at_string HR1.out x13_1 p1596 q1596
         cases e1596
         replace p1596 := eq_true p1596
         replace q1596 := eq_true q1596
         go_wp2
         repeat (go_quiet (fail); try go_wp2)
         go_ret
         exact ⟨by first | rfl | (simp; done) | (simp [*]; done), DR⟩
       ·rw [if_neg c7] at H
        exact absurd H (by simp)
      ·rw [if_neg c6] at H
       exact absurd H (by simp)
     ·rw [if_neg c5] at H
      exact absurd H (by simp)
    ·rw [if_neg c4] at H
     have c4b0 : decide (x13_1 < (l0.length : Int)) = false := decide_eq_false c4
     clear c4
     obtain rfl := Option.some.inj H
     go_wp2
     repeat (go_quiet (fail); try go_wp2)
     go_ret
     exact ⟨by first | rfl | (simp; done) | (simp [*]; done), DR⟩
 ·rw [if_neg c3] at H
  have c3b0 : ((l0.length : Int) == (l1.length : Int)) = false := beq_eq_false_iff_ne.mpr c3
  have c3b1 : ((l0.length : Int) != (l1.length : Int)) = true := bne_iff_ne.mpr c3
  have c3b2 : (l0.length == l1.length) = false := by first | simpa using c3 | (simp at c3 ⊢; omega)
  obtain rfl := Option.some.inj H
  go_enter Try.func30, Try.ntmps30
  go_wp2
  repeat (go_quiet (fail); try go_wp2)
  go_ret
  exact ⟨by first | rfl | (simp; done) | (simp [*]; done), DR⟩
def laws_less.f (a0 : Bool) : Option (Int) := if a0 = true then (some 1) else (some 0)
set_option maxHeartbeats 8000000 in
set_option maxRecDepth 100000 in
theorem laws_less.calls (a0 : Bool) (r : Int) (w : World) (h : laws_less.f a0 = some r) :
  Calls Try.prog 31 #[.bool a0] w fun e w' => e = .returned (.int .i64 r) ∧ Drawn0 w w' := by
 have H : (if a0 = true then (some 1) else (some 0)) = some r := h
 clear h
 by_cases c2 : a0 = true
 ·subst c2
  replace H := IP H
  obtain rfl := Option.some.inj H
  go_enter Try.func31, Try.ntmps31
  go_wp2
  go_ret
  exact ⟨by first | rfl | (simp; done) | (simp [*]; done), DR⟩
 ·replace c2 := Bool.eq_false_iff.mpr c2
  subst c2
  replace H := IN H
  obtain rfl := Option.some.inj H
  go_enter Try.func31, Try.ntmps31
  go_wp2
  go_ret
  exact ⟨by first | rfl | (simp; done) | (simp [*]; done), DR⟩
end Go.Proofs.Ytanakbmhclpamaa.G

namespace Go.Proofs.Ytanakbmhclpamaa.G
open Go.RowKit Go.Proofs.YtanakbmhclpamaaW.PrintWords Go.Proofs.YtanakbmhclpamaaW.PrintLast Go.Proofs.YtanakbmhclpamaaW.PrintMore Go.Proofs.Ytanakbmhclpamaa.Sh
attribute [local go_sem] max2_int min2_int max_two min_two max_three min_three max_four min_four
set_option linter.unusedVariables false
set_option linter.unusedSimpArgs false
open Go.Proofs.Ytanakbmhclpamaa.Mm
def laws_FnClock.j0 : Nat → Bool → Option (Bool)
 | 0, _ => none
 | k + 1, x61 => if x61 = true then (none) else ((impl_RowNew.f k 3 2).bind fun bt1619 => ((impl_RowPut.f k bt1619.1 bt1619.2.1 bt1619.2.2.1 (⟨#[120]⟩ : ByteArray) (⟨#[49]⟩ : ByteArray)).bind fun bt1626 => ((impl_RowPut.f k bt1626.1 bt1626.2.1 bt1626.2.2.1 (⟨#[121]⟩ : ByteArray) (⟨#[50]⟩ : ByteArray)).bind fun bt1635 => ((impl_RowGet.f k bt1635.1 bt1635.2.1 bt1635.2.2.1 (⟨#[120]⟩ : ByteArray)).bind fun bt1644 => ((impl_RowPut.f k bt1644.1 bt1644.2.1 bt1644.2.2.1 (⟨#[122]⟩ : ByteArray) (⟨#[51]⟩ : ByteArray)).bind fun bt1651 => (if bt1619.2.2.2 = true then (if bt1644.2.2.2.2 = true then (if bt1644.2.2.2.1.toList = ([49] : List UInt8) then (if bt1651.2.2.2.2 = true then (if (bt1651.2.2.2.1.length : Int) = 1 then (if 0 < (bt1651.2.2.2.1.length : Int) then (if (rdOf ByteArray.empty bt1651.2.2.2.1 0).toList = ([121] : List UInt8) then ((impl_RowKeys.f k bt1651.1 bt1651.2.1 bt1651.2.2.1).bind fun t1661 => ((laws_sameTexts.f k t1661 (([(⟨#[120]⟩ : ByteArray), (⟨#[122]⟩ : ByteArray)] : List ByteArray))).bind fun t1667 => (some t1667))) else (none)) else (none)) else (none)) else (none)) else (none)) else (none)) else (none)))))))
def laws_FnClock.f (k : Nat) (l0 : List Int) : Option (Bool) := if (l0.length : Int) > 1048576 then (some true) else ((spec_MakeAsks.f k l0 24).bind fun t1597 => ((impl_Distinct.f k t1597).bind fun t1600 => ((spec_MakeNum.f k l0 4).bind fun t1603 => ((impl_Holds.f k 1 (wrap64 (1 + t1603)) 0 t1600).bind fun t1607 => ((impl_Holds.f k 3 (wrap64 (1 + t1603)) 0 t1600).bind fun t1610 => ((laws_sameTexts.f k t1607 t1610).bind fun t1613 => (if t1613 = true then ((impl_Holds.f k 2 (wrap64 (1 + t1603)) 0 t1600).bind fun t1614 => ((laws_sameTexts.f k t1607 t1614).bind fun t1617 => (if t1617 = true then (if (t1607.length : Int) > (wrap64 (1 + t1603)) then (laws_FnClock.j0 k true) else ((laws_less.f (decide ((t1600.length : Int) > 0))).bind fun t1618 => (laws_FnClock.j0 k (decide ((t1607.length : Int) < t1618))))) else (laws_FnClock.j0 k true)))) else (laws_FnClock.j0 k true))))))))
set_option maxHeartbeats 8000000 in
set_option maxRecDepth 100000 in
theorem laws_FnClock.calls (k : Nat) (A0 : Option Addr) (c0 : Nat) (l0 : List Int) (r : Bool) (w : World) (hr0 : Kd.C (Kd.int .u8) w A0 l0.length l0) (hc0 : l0.length ≤ c0) (h : laws_FnClock.f k l0 = some r) :
  Calls Try.prog 6 #[.slice A0 l0.length c0] w fun e w' => e = .returned (.bool r) ∧ Below w.heap.size w w' := by
 have hu28 := Try.underlying28
 have hu46 := Try.underlying46
 have HR0 := Aside0.mk hr0
 have HC0 := Aside0.mk hc0
 clear hr0 hc0
 have HM := Mem.nil w
 have H := h
 clear h
 unfold laws_FnClock.f at H
 go_enter Try.func6, Try.ntmps6
 go_upto_if 17 with (fail)
 replace H := IT H; rcases H with ⟨c2, H⟩ | ⟨c2, H⟩
 ·replace c2 : (l0.length : Int) > 1048576 := c2
  have c2b0 : decide (1048576 < (l0.length : Int)) = true := decide_eq_true c2
  have c2b1 : decide (1048576 < l0.length) = true := decide_eq_true (by omega)
  have c2b9 : decide (1048576 < l0.length) = true := decide_eq_true (by omega)
  clear c2
  (first | rw [c2b0] | rw [c2b9] | (simp only [i64_w, i32_w]; rw [c2b0]) | skip)
  obtain rfl := Option.some.inj H
  go_wp2
  go_ret
  exact ⟨ER, HM.bel⟩
 ·replace c2 : ¬ ((l0.length : Int) > 1048576) := c2
  have c2b0 : decide (1048576 < (l0.length : Int)) = false := decide_eq_false c2
  have c2b1 : decide (1048576 < l0.length) = false := decide_eq_false (by omega)
  have c2b9 : decide (1048576 < l0.length) = false := decide_eq_false (by omega)
  clear c2
  (first | rw [c2b0] | rw [c2b9] | (simp only [i64_w, i32_w]; rw [c2b0]) | skip)
  replace H := BN H; obtain ⟨t1597, A3, H⟩ := H
  replace H := BN H; obtain ⟨t1600, A5, H⟩ := H
  replace H := BN H; obtain ⟨t1603, A8, H⟩ := H
  replace H := BN H; obtain ⟨t1607, A17, H⟩ := H
  have HC20 := Aside0.mk H
  clear H
  go_upto_region 9 with (first | ((with_reducible refine gC 28 rfl ?_); refine pC (some 19) rfl #[.slice A0 l0.length c0, .int .i64 24] rfl Try.func28 (spec_MakeAsks.calls k _ _ l0 24 t1597 _ (HM.came HR0.out) HC0.out A3.out) ?_; rintro e w4 ⟨v1598, rfl, hR⟩; refine ⟨_, rfl, ?_⟩; replace HM := HM.call hR; clear hR; obtain ⟨Xo7, ko7, eo7⟩ := HM.rdR 0 rfl; subst eo7) | ((with_reducible refine gC 27 rfl ?_); refine pC (some 20) rfl #[.slice Xo7 t1597.length ko7] rfl Try.func27 (impl_Distinct.calls k _ _ t1597 t1600 _ (HM.CR 0 rfl).2.2 (HM.CR 0 rfl).2.1 A5.out) ?_; rintro e w6 ⟨v1601, rfl, hR⟩; refine ⟨_, rfl, ?_⟩; replace HM := HM.call hR; clear hR) | ((with_reducible refine gC 29 rfl ?_); refine pC (some 22) rfl #[.slice A0 l0.length c0, .int .i64 4] rfl Try.func29 (spec_MakeNum.calls k _ _ l0 4 t1603 _ (HM.came HR0.out) HC0.out A8.out) ?_; rintro e w9 ⟨rfl, hR⟩; refine ⟨_, rfl, ?_⟩; replace HM := HM.call hR; clear hR) | ((with_reducible refine gN 5 rfl ?_); refine pB 5 28 [.int .i64 0, .int .i64 0, .int .i64 0] HM rfl ?_; clear HM; intro gb1604 w10 HM) | ((with_reducible refine gS 5 rfl ?_); refine pS 2 5 0 [.int .i64 1, .int .i64 (wrap64 (1 + t1603)), .int .i64 0] HM rfl rfl ?_; clear HM; intro w11 HM) | ((with_reducible refine gN 6 rfl ?_); refine pB 6 28 [.int .i64 0, .int .i64 0, .int .i64 0] HM rfl ?_; clear HM; intro gb1605 w12 HM) | ((with_reducible refine gS 6 rfl ?_); refine pS 3 6 0 [.int .i64 3, .int .i64 (wrap64 (1 + t1603)), .int .i64 0] HM rfl rfl ?_; clear HM; intro w13 HM) | ((with_reducible refine gN 7 rfl ?_); refine pB 7 28 [.int .i64 0, .int .i64 0, .int .i64 0] HM rfl ?_; clear HM; intro gb1606 w14 HM) | ((with_reducible refine gS 7 rfl ?_); refine pS 4 7 0 [.int .i64 2, .int .i64 (wrap64 (1 + t1603)), .int .i64 0] HM rfl rfl ?_; clear HM; intro w15 HM; obtain ⟨z16_0, z16_1, z16_2, Z16_0, Z16_1, Z16_2⟩ := bk3 (HM.bx 2 rfl); obtain ⟨Xo19, ko19, eo19⟩ := HM.rdR 1 rfl; subst eo19) | ((with_reducible refine gC 25 rfl ?_); refine pC (some 32) rfl #[.agg #[.int .i64 1, .int .i64 (wrap64 (1 + t1603)), .int .i64 0], .slice Xo19 t1600.length ko19] rfl Try.func25 (impl_Holds.calls k 1 (wrap64 (1 + t1603)) 0 _ _ t1600 t1607 _ (HM.CR 1 rfl).2.2 (HM.CR 1 rfl).2.1 A17.out) ?_; rintro e w18 ⟨v1608, rfl, hR⟩; refine ⟨_, rfl, ?_⟩; replace HM := HM.call hR; clear hR))
  replace HM := nzM HM
  go_cut [61] (fun v61 wc => ∃ (kq : Nat) (x61_19 : Bool), v61 = .bool x61_19 ∧ Aside0 (laws_FnClock.j0 kq x61_19 = some r) ∧ Aside0 (kq ≤ k) ∧ Mem w [] wc [])
  case first =>
   have H := HC20.out
   clear HC20
   replace H := BN H; obtain ⟨t1610, A22, H⟩ := H
   replace H := BN H; obtain ⟨t1613, A24, H⟩ := H
   replace H := IB H
   rcases H with ⟨c28, H⟩ | ⟨c28, H⟩
   ·subst c28
    replace H := BN H; obtain ⟨t1614, A30, H⟩ := H
    replace H := BN H; obtain ⟨t1617, A32, H⟩ := H
    replace H := IB H
    rcases H with ⟨c35, H⟩ | ⟨c35, H⟩
    ·subst c35
     replace H := IT H; rcases H with ⟨c36, H⟩ | ⟨c36, H⟩
     ·have c36b0 : decide ((wrap64 (1 + t1603)) < (t1607.length : Int)) = true := decide_eq_true c36
      clear c36
      have H' := Aside0.mk H
      clear H
      obtain ⟨z21_0, z21_1, z21_2, Z21_0, Z21_1, Z21_2⟩ := bk3 (HM.bx 3 rfl)
      go_wp2_with (first | ((with_reducible refine gC 25 rfl ?_); refine pC (some 36) rfl #[.agg #[.int .i64 3, .int .i64 (wrap64 (1 + t1603)), .int .i64 0], .slice Xo19 t1600.length ko19] rfl Try.func25 (impl_Holds.calls k 3 (wrap64 (1 + t1603)) 0 _ _ t1600 t1610 _ (HM.CR 1 rfl).2.2 (HM.CR 1 rfl).2.1 A22.out) ?_; rintro e w23 ⟨v1611, rfl, hR⟩; refine ⟨_, rfl, ?_⟩; replace HM := HM.call hR; clear hR; obtain ⟨Xo26, ko26, eo26⟩ := HM.rdR 5 rfl; subst eo26; obtain ⟨Xo27, ko27, eo27⟩ := HM.rdR 6 rfl; subst eo27) | ((with_reducible refine gC 30 rfl ?_); refine pC (some 37) rfl #[.slice Xo26 t1607.length ko26, .slice Xo27 t1610.length ko27] rfl Try.func30 (laws_sameTexts.calls k _ _ t1607 _ _ t1610 true _ (HM.CR 5 rfl).2.2 (HM.CR 5 rfl).2.1 (HM.CR 6 rfl).2.2 (HM.CR 6 rfl).2.1 A24.out) ?_; rintro e w25 ⟨rfl, hd⟩; refine ⟨_, rfl, ?_⟩; replace HM := HM.drawn hd; clear hd; obtain ⟨z29_0, z29_1, z29_2, Z29_0, Z29_1, Z29_2⟩ := bk3 (HM.bx 4 rfl)) | ((with_reducible refine gC 25 rfl ?_); refine pC (some 43) rfl #[.agg #[.int .i64 2, .int .i64 (wrap64 (1 + t1603)), .int .i64 0], .slice Xo19 t1600.length ko19] rfl Try.func25 (impl_Holds.calls k 2 (wrap64 (1 + t1603)) 0 _ _ t1600 t1614 _ (HM.CR 1 rfl).2.2 (HM.CR 1 rfl).2.1 A30.out) ?_; rintro e w31 ⟨v1615, rfl, hR⟩; refine ⟨_, rfl, ?_⟩; replace HM := HM.call hR; clear hR; obtain ⟨Xo34, ko34, eo34⟩ := HM.rdR 7 rfl; subst eo34) | ((with_reducible refine gC 30 rfl ?_); refine pC (some 44) rfl #[.slice Xo26 t1607.length ko26, .slice Xo34 t1614.length ko34] rfl Try.func30 (laws_sameTexts.calls k _ _ t1607 _ _ t1614 true _ (HM.CR 5 rfl).2.2 (HM.CR 5 rfl).2.1 (HM.CR 7 rfl).2.2 (HM.CR 7 rfl).2.1 A32.out) ?_; rintro e w33 ⟨rfl, hd⟩; refine ⟨_, rfl, ?_⟩; replace HM := HM.drawn hd; clear hd))
      go_meet
      case rel => exact ⟨_, (true), RS, H', ⟨by first | omega | exact Nat.le_refl _⟩, (MD HM).pick []⟩
     ·have c36b0 : decide ((wrap64 (1 + t1603)) < (t1607.length : Int)) = false := decide_eq_false c36
      clear c36
      replace H := BN H; obtain ⟨t1618, A37, H⟩ := H
      have H' := Aside0.mk H
      clear H
      obtain ⟨z21_0, z21_1, z21_2, Z21_0, Z21_1, Z21_2⟩ := bk3 (HM.bx 3 rfl)
      go_wp2_with (first | ((with_reducible refine gC 25 rfl ?_); refine pC (some 36) rfl #[.agg #[.int .i64 3, .int .i64 (wrap64 (1 + t1603)), .int .i64 0], .slice Xo19 t1600.length ko19] rfl Try.func25 (impl_Holds.calls k 3 (wrap64 (1 + t1603)) 0 _ _ t1600 t1610 _ (HM.CR 1 rfl).2.2 (HM.CR 1 rfl).2.1 A22.out) ?_; rintro e w23 ⟨v1611, rfl, hR⟩; refine ⟨_, rfl, ?_⟩; replace HM := HM.call hR; clear hR; obtain ⟨Xo26, ko26, eo26⟩ := HM.rdR 5 rfl; subst eo26; obtain ⟨Xo27, ko27, eo27⟩ := HM.rdR 6 rfl; subst eo27) | ((with_reducible refine gC 30 rfl ?_); refine pC (some 37) rfl #[.slice Xo26 t1607.length ko26, .slice Xo27 t1610.length ko27] rfl Try.func30 (laws_sameTexts.calls k _ _ t1607 _ _ t1610 true _ (HM.CR 5 rfl).2.2 (HM.CR 5 rfl).2.1 (HM.CR 6 rfl).2.2 (HM.CR 6 rfl).2.1 A24.out) ?_; rintro e w25 ⟨rfl, hd⟩; refine ⟨_, rfl, ?_⟩; replace HM := HM.drawn hd; clear hd; obtain ⟨z29_0, z29_1, z29_2, Z29_0, Z29_1, Z29_2⟩ := bk3 (HM.bx 4 rfl)) | ((with_reducible refine gC 25 rfl ?_); refine pC (some 43) rfl #[.agg #[.int .i64 2, .int .i64 (wrap64 (1 + t1603)), .int .i64 0], .slice Xo19 t1600.length ko19] rfl Try.func25 (impl_Holds.calls k 2 (wrap64 (1 + t1603)) 0 _ _ t1600 t1614 _ (HM.CR 1 rfl).2.2 (HM.CR 1 rfl).2.1 A30.out) ?_; rintro e w31 ⟨v1615, rfl, hR⟩; refine ⟨_, rfl, ?_⟩; replace HM := HM.call hR; clear hR; obtain ⟨Xo34, ko34, eo34⟩ := HM.rdR 7 rfl; subst eo34) | ((with_reducible refine gC 30 rfl ?_); refine pC (some 44) rfl #[.slice Xo26 t1607.length ko26, .slice Xo34 t1614.length ko34] rfl Try.func30 (laws_sameTexts.calls k _ _ t1607 _ _ t1614 true _ (HM.CR 5 rfl).2.2 (HM.CR 5 rfl).2.1 (HM.CR 7 rfl).2.2 (HM.CR 7 rfl).2.1 A32.out) ?_; rintro e w33 ⟨rfl, hd⟩; refine ⟨_, rfl, ?_⟩; replace HM := HM.drawn hd; clear hd) | ((with_reducible refine gC 31 rfl ?_); refine pC (some 59) rfl #[.bool (decide ((t1600.length : Int) > 0))] rfl Try.func31 (laws_less.calls (decide ((t1600.length : Int) > 0)) t1618 _ A37.out) ?_ (hargs := by (try simp only [List.map_toArray, List.map_cons, List.map_nil]); first | done | rfl | (show (#[.bool (decide (0 < t1600.length))] : Array Value) = _; simp)); rintro e w38 ⟨rfl, hd⟩; refine ⟨_, rfl, ?_⟩; replace HM := HM.drawn hd; clear hd))
      go_meet
      case rel => exact ⟨_, (decide ((t1607.length : Int) < t1618)), RS, H', ⟨by first | omega | exact Nat.le_refl _⟩, (MD HM).pick []⟩
    ·subst c35
     have H' := Aside0.mk H
     clear H
     obtain ⟨z21_0, z21_1, z21_2, Z21_0, Z21_1, Z21_2⟩ := bk3 (HM.bx 3 rfl)
     go_wp2_with (first | ((with_reducible refine gC 25 rfl ?_); refine pC (some 36) rfl #[.agg #[.int .i64 3, .int .i64 (wrap64 (1 + t1603)), .int .i64 0], .slice Xo19 t1600.length ko19] rfl Try.func25 (impl_Holds.calls k 3 (wrap64 (1 + t1603)) 0 _ _ t1600 t1610 _ (HM.CR 1 rfl).2.2 (HM.CR 1 rfl).2.1 A22.out) ?_; rintro e w23 ⟨v1611, rfl, hR⟩; refine ⟨_, rfl, ?_⟩; replace HM := HM.call hR; clear hR; obtain ⟨Xo26, ko26, eo26⟩ := HM.rdR 5 rfl; subst eo26; obtain ⟨Xo27, ko27, eo27⟩ := HM.rdR 6 rfl; subst eo27) | ((with_reducible refine gC 30 rfl ?_); refine pC (some 37) rfl #[.slice Xo26 t1607.length ko26, .slice Xo27 t1610.length ko27] rfl Try.func30 (laws_sameTexts.calls k _ _ t1607 _ _ t1610 true _ (HM.CR 5 rfl).2.2 (HM.CR 5 rfl).2.1 (HM.CR 6 rfl).2.2 (HM.CR 6 rfl).2.1 A24.out) ?_; rintro e w25 ⟨rfl, hd⟩; refine ⟨_, rfl, ?_⟩; replace HM := HM.drawn hd; clear hd; obtain ⟨z29_0, z29_1, z29_2, Z29_0, Z29_1, Z29_2⟩ := bk3 (HM.bx 4 rfl)) | ((with_reducible refine gC 25 rfl ?_); refine pC (some 43) rfl #[.agg #[.int .i64 2, .int .i64 (wrap64 (1 + t1603)), .int .i64 0], .slice Xo19 t1600.length ko19] rfl Try.func25 (impl_Holds.calls k 2 (wrap64 (1 + t1603)) 0 _ _ t1600 t1614 _ (HM.CR 1 rfl).2.2 (HM.CR 1 rfl).2.1 A30.out) ?_; rintro e w31 ⟨v1615, rfl, hR⟩; refine ⟨_, rfl, ?_⟩; replace HM := HM.call hR; clear hR; obtain ⟨Xo34, ko34, eo34⟩ := HM.rdR 7 rfl; subst eo34) | ((with_reducible refine gC 30 rfl ?_); refine pC (some 44) rfl #[.slice Xo26 t1607.length ko26, .slice Xo34 t1614.length ko34] rfl Try.func30 (laws_sameTexts.calls k _ _ t1607 _ _ t1614 false _ (HM.CR 5 rfl).2.2 (HM.CR 5 rfl).2.1 (HM.CR 7 rfl).2.2 (HM.CR 7 rfl).2.1 A32.out) ?_; rintro e w33 ⟨rfl, hd⟩; refine ⟨_, rfl, ?_⟩; replace HM := HM.drawn hd; clear hd))
     go_meet
     case rel => exact ⟨_, (true), RS, H', ⟨by first | omega | exact Nat.le_refl _⟩, (MD HM).pick []⟩
   ·subst c28
    have H' := Aside0.mk H
    clear H
    obtain ⟨z21_0, z21_1, z21_2, Z21_0, Z21_1, Z21_2⟩ := bk3 (HM.bx 3 rfl)
    go_wp2_with (first | ((with_reducible refine gC 25 rfl ?_); refine pC (some 36) rfl #[.agg #[.int .i64 3, .int .i64 (wrap64 (1 + t1603)), .int .i64 0], .slice Xo19 t1600.length ko19] rfl Try.func25 (impl_Holds.calls k 3 (wrap64 (1 + t1603)) 0 _ _ t1600 t1610 _ (HM.CR 1 rfl).2.2 (HM.CR 1 rfl).2.1 A22.out) ?_; rintro e w23 ⟨v1611, rfl, hR⟩; refine ⟨_, rfl, ?_⟩; replace HM := HM.call hR; clear hR; obtain ⟨Xo26, ko26, eo26⟩ := HM.rdR 5 rfl; subst eo26; obtain ⟨Xo27, ko27, eo27⟩ := HM.rdR 6 rfl; subst eo27) | ((with_reducible refine gC 30 rfl ?_); refine pC (some 37) rfl #[.slice Xo26 t1607.length ko26, .slice Xo27 t1610.length ko27] rfl Try.func30 (laws_sameTexts.calls k _ _ t1607 _ _ t1610 false _ (HM.CR 5 rfl).2.2 (HM.CR 5 rfl).2.1 (HM.CR 6 rfl).2.2 (HM.CR 6 rfl).2.1 A24.out) ?_; rintro e w25 ⟨rfl, hd⟩; refine ⟨_, rfl, ?_⟩; replace HM := HM.drawn hd; clear hd))
    go_meet
    case rel => exact ⟨_, (true), RS, H', ⟨by first | omega | exact Nat.le_refl _⟩, (MD HM).pick []⟩
  case rest =>
   clear HC20 HM
   obtain ⟨kq, x61_19, rfl, HA, HJ19, HM⟩ := hcut
   cases kq with
   | zero => exact absurd HA.out (by simp [laws_FnClock.j0])
   | succ kj19 =>
    have H := HA.out
    clear HA
    simp only [laws_FnClock.j0] at H
    replace H := GN H
    obtain ⟨c39, H⟩ := H
    replace c39 := Bool.eq_false_iff.mpr c39
    subst c39
    replace H := BN H; obtain ⟨⟨t1619, t1620, t1621, t1624⟩, A40, H⟩ := H
    replace H := BN H; obtain ⟨⟨t1626, t1627, t1628, t1631, t1634⟩, A46, H⟩ := H
    replace H := BN H; obtain ⟨⟨t1635, t1636, t1637, t1640, t1643⟩, A51, H⟩ := H
    replace H := BN H; obtain ⟨⟨t1644, t1645, t1646, t1649, t1650⟩, A56, H⟩ := H
    replace H := BN H; obtain ⟨⟨t1651, t1652, t1653, t1656, t1659⟩, A61, H⟩ := H
    replace H := GD H
    obtain ⟨c65, H⟩ := H
    subst c65
    replace H := GD H
    obtain ⟨c66, H⟩ := H
    subst c66
    replace H := GD H; obtain ⟨c67, H⟩ := H
    have c67b0 : (t1649.toList == ([49] : List UInt8)) = true := beq_iff_eq.mpr c67
    have c67b1 : (t1649.toList != ([49] : List UInt8)) = false := bne_eq_false_iff_eq.mpr c67
    clear c67
    replace H := GD H
    obtain ⟨c68, H⟩ := H
    subst c68
    replace H := GD H; obtain ⟨c70, H⟩ := H
    have c70b0 : ((t1656.length : Int) == 1) = true := beq_iff_eq.mpr c70
    have c70b1 : ((t1656.length : Int) != 1) = false := bne_eq_false_iff_eq.mpr c70
    clear c70
    replace H := GD H; obtain ⟨c71, H⟩ := H
    replace c71 : 0 < (t1656.length : Int) := c71
    have c71b0 : decide (0 < (t1656.length : Int)) = true := decide_eq_true c71
    have c71b1 : decide (0 < t1656.length) = true := decide_eq_true (by omega)
    have c71b9 : decide (0 < t1656.length) = true := decide_eq_true (by omega)
    clear c71
    replace H := GD H; obtain ⟨c72, H⟩ := H
    have c72b0 : ((rdOf ByteArray.empty t1656 0).toList == ([121] : List UInt8)) = true := beq_iff_eq.mpr c72
    have c72b1 : ((rdOf ByteArray.empty t1656 0).toList != ([121] : List UInt8)) = false := bne_eq_false_iff_eq.mpr c72
    clear c72
    replace H := BN H; obtain ⟨t1661, A74, H⟩ := H
    replace H := BN H; obtain ⟨t1667, A77, H⟩ := H
    obtain rfl := Option.some.inj H
    go_wp2_with (first | ((with_reducible refine gC 32 rfl ?_); refine pC (some 63) rfl #[.int .i64 3, .int .i64 2] rfl Try.func32 (impl_RowNew.calls kj19 3 2 t1619 t1620 t1621 true _ A40.out) ?_; rintro e w41 ⟨v1622, rfl, hR⟩; refine ⟨_, rfl, ?_⟩; replace HM := HM.call hR; clear hR) | ((with_reducible refine gN 9 rfl ?_); refine pB 9 46 [.int .i64 0, .int .i64 0, .slice none 0 0] HM rfl ?_; clear HM; intro gb1625 w42 HM; obtain ⟨Xo43, ko43, eo43⟩ := HM.rdR 0 rfl; subst eo43) | ((with_reducible refine gS 9 rfl ?_); refine pS 1 9 0 [.int .i64 t1619, .int .i64 t1620, .slice Xo43 t1621.length ko43] HM rfl rfl ?_; clear HM; intro w44 HM; obtain ⟨z45_0, z45_1, z45_2, Z45_0, Z45_1, Z45_2⟩ := bk3 (HM.bx 1 rfl)) | ((with_reducible refine gC 33 rfl ?_); refine pC (some 68) rfl #[.agg #[.int .i64 t1619, .int .i64 t1620, .slice Xo43 t1621.length ko43], .string (⟨#[120]⟩ : ByteArray), .string (⟨#[49]⟩ : ByteArray)] rfl Try.func33 (impl_RowPut.calls kj19 t1619 t1620 _ _ t1621 (⟨#[120]⟩ : ByteArray) (⟨#[49]⟩ : ByteArray) t1626 t1627 t1628 t1631 t1634 _ (HM.CR 0 rfl).2.2 (HM.CR 0 rfl).2.1 A46.out) ?_; rintro e w47 ⟨v1629, v1632, rfl, hR⟩; refine ⟨_, rfl, ?_⟩; replace HM := HM.call hR; clear hR; obtain ⟨Xo48, ko48, eo48⟩ := HM.rdR 2 rfl; subst eo48) | ((with_reducible refine gS 9 rfl ?_); refine pS 1 9 0 [.int .i64 t1626, .int .i64 t1627, .slice Xo48 t1628.length ko48] HM rfl rfl ?_; clear HM; intro w49 HM; obtain ⟨z50_0, z50_1, z50_2, Z50_0, Z50_1, Z50_2⟩ := bk3 (HM.bx 1 rfl)) | ((with_reducible refine gC 33 rfl ?_); refine pC (some 74) rfl #[.agg #[.int .i64 t1626, .int .i64 t1627, .slice Xo48 t1628.length ko48], .string (⟨#[121]⟩ : ByteArray), .string (⟨#[50]⟩ : ByteArray)] rfl Try.func33 (impl_RowPut.calls kj19 t1626 t1627 _ _ t1628 (⟨#[121]⟩ : ByteArray) (⟨#[50]⟩ : ByteArray) t1635 t1636 t1637 t1640 t1643 _ (HM.CR 2 rfl).2.2 (HM.CR 2 rfl).2.1 A51.out) ?_; rintro e w52 ⟨v1638, v1641, rfl, hR⟩; refine ⟨_, rfl, ?_⟩; replace HM := HM.call hR; clear hR; obtain ⟨Xo53, ko53, eo53⟩ := HM.rdR 4 rfl; subst eo53) | ((with_reducible refine gS 9 rfl ?_); refine pS 1 9 0 [.int .i64 t1635, .int .i64 t1636, .slice Xo53 t1637.length ko53] HM rfl rfl ?_; clear HM; intro w54 HM; obtain ⟨z55_0, z55_1, z55_2, Z55_0, Z55_1, Z55_2⟩ := bk3 (HM.bx 1 rfl)) | ((with_reducible refine gC 34 rfl ?_); refine pC (some 80) rfl #[.agg #[.int .i64 t1635, .int .i64 t1636, .slice Xo53 t1637.length ko53], .string (⟨#[120]⟩ : ByteArray)] rfl Try.func34 (impl_RowGet.calls kj19 t1635 t1636 _ _ t1637 (⟨#[120]⟩ : ByteArray) t1644 t1645 t1646 t1649 true _ (HM.CR 4 rfl).2.2 (HM.CR 4 rfl).2.1 A56.out) ?_; rintro e w57 ⟨v1647, rfl, hR⟩; refine ⟨_, rfl, ?_⟩; replace HM := HM.call hR; clear hR; obtain ⟨Xo58, ko58, eo58⟩ := HM.rdR 6 rfl; subst eo58) | ((with_reducible refine gS 9 rfl ?_); refine pS 1 9 0 [.int .i64 t1644, .int .i64 t1645, .slice Xo58 t1646.length ko58] HM rfl rfl ?_; clear HM; intro w59 HM; obtain ⟨z60_0, z60_1, z60_2, Z60_0, Z60_1, Z60_2⟩ := bk3 (HM.bx 1 rfl)) | ((with_reducible refine gC 33 rfl ?_); refine pC (some 86) rfl #[.agg #[.int .i64 t1644, .int .i64 t1645, .slice Xo58 t1646.length ko58], .string (⟨#[122]⟩ : ByteArray), .string (⟨#[51]⟩ : ByteArray)] rfl Try.func33 (impl_RowPut.calls kj19 t1644 t1645 _ _ t1646 (⟨#[122]⟩ : ByteArray) (⟨#[51]⟩ : ByteArray) t1651 t1652 t1653 t1656 true _ (HM.CR 6 rfl).2.2 (HM.CR 6 rfl).2.1 A61.out) ?_; rintro e w62 ⟨v1654, v1657, rfl, hR⟩; refine ⟨_, rfl, ?_⟩; replace HM := HM.call hR; clear hR; obtain ⟨Xo63, ko63, eo63⟩ := HM.rdR 7 rfl; subst eo63) | ((with_reducible refine gS 9 rfl ?_); refine pS 1 9 0 [.int .i64 t1651, .int .i64 t1652, .slice Xo63 t1653.length ko63] HM rfl rfl ?_; clear HM; intro w64 HM; obtain ⟨Xo69, ko69, eo69⟩ := HM.rdR 8 rfl; subst eo69; have p1660 : 0 ≤ (0 : Int) := (by omega); have q1660 : (0 : Int) < (t1656.length : Int) := of_decide_eq_true AS; obtain ⟨ad1660, e1660, hx1660_0⟩ := Kd.at_string (HM.CR 8 rfl).2.2 0 p1660 q1660; cases e1660; have qi1660 : (0 < t1656.length) = True := eq_true (by omega); (try rw [show ((0 : Int)).toNat = 0 from rfl] at hx1660_0); (try rw [Addr.add_zero'] at hx1660_0); replace p1660 := eq_true p1660; replace q1660 := eq_true q1660; obtain ⟨z73_0, z73_1, z73_2, Z73_0, Z73_1, Z73_2⟩ := bk3 (HM.bx 1 rfl)) | ((with_reducible refine gC 35 rfl ?_); refine pC (some 114) rfl #[.agg #[.int .i64 t1651, .int .i64 t1652, .slice Xo63 t1653.length ko63]] rfl Try.func35 (impl_RowKeys.calls kj19 t1651 t1652 _ _ t1653 t1661 _ (HM.CR 7 rfl).2.2 (HM.CR 7 rfl).2.1 A74.out) ?_; rintro e w75 ⟨v1662, rfl, hR⟩; refine ⟨_, rfl, ?_⟩; replace HM := HM.call hR; clear hR) | ((with_reducible refine gN 115 rfl ?_); refine pL 115 Kd.string 9 ([(⟨#[120]⟩ : ByteArray), (⟨#[122]⟩ : ByteArray)] : List ByteArray) [.string (⟨#[120]⟩ : ByteArray), .string (⟨#[122]⟩ : ByteArray)] (Reps.one (show Kd.M Kd.string _ _ _ (⟨#[120]⟩ : ByteArray) [.string (⟨#[120]⟩ : ByteArray)] from rfl) (Reps.one (show Kd.M Kd.string _ _ _ (⟨#[122]⟩ : ByteArray) [.string (⟨#[122]⟩ : ByteArray)] from rfl) (Reps.none _ _))) HM rfl ?_; clear HM; intro v1665 w76 HM; obtain ⟨Xo79, ko79, eo79⟩ := HM.rdR 9 rfl; subst eo79; obtain ⟨Xo80, ko80, eo80⟩ := HM.rdR 10 rfl; subst eo80) | ((with_reducible refine gC 30 rfl ?_); refine pC (some 116) rfl #[.slice Xo79 t1661.length ko79, .slice Xo80 (([(⟨#[120]⟩ : ByteArray), (⟨#[122]⟩ : ByteArray)] : List ByteArray)).length ko80] rfl Try.func30 (laws_sameTexts.calls kj19 _ _ t1661 _ _ (([(⟨#[120]⟩ : ByteArray), (⟨#[122]⟩ : ByteArray)] : List ByteArray)) t1667 _ (HM.CR 9 rfl).2.2 (HM.CR 9 rfl).2.1 (HM.CR 10 rfl).2.2 (HM.CR 10 rfl).2.1 A77.out) ?_; rintro e w78 ⟨rfl, hd⟩; refine ⟨_, rfl, ?_⟩; replace HM := HM.drawn hd; clear hd))
    go_ret
    exact ⟨ER, HM.bel⟩
end Go.Proofs.Ytanakbmhclpamaa.G
