/- Part 3 of the claim FnCount, merged by pack.py (this session's program) out of: the print's words, cut to what is needed; texts that gen.py printed (it runs the kit's print in place); texts of this session. -/
import Derived.Test.YtanakbmhclpamaaKFnCount1
import Derived.Test.YtanakbmhclpamaaKFnCount2
namespace Go.Proofs.Ytanakbmhclpamaa.Mm
end Go.Proofs.Ytanakbmhclpamaa.Mm
namespace Go.Proofs.Ytanakbmhclpamaa.Sh
end Go.Proofs.Ytanakbmhclpamaa.Sh
namespace Go.Proofs.Ytanakbmhclpamaa.G
open Go.RowKit Go.Proofs.YtanakbmhclpamaaW.PrintWords Go.Proofs.YtanakbmhclpamaaW.PrintLast Go.Proofs.YtanakbmhclpamaaW.PrintMore Go.Proofs.Ytanakbmhclpamaa.Sh
attribute [local go_sem] max2_int min2_int max_two min_two max_three min_three max_four min_four
set_option linter.unusedVariables false
set_option linter.unusedSimpArgs false
open Go.Proofs.Ytanakbmhclpamaa.Mm
def impl_Holds.j0 : Nat → List ByteArray → Bool → Int → Int → Int → Option (List ByteArray)
 | 0, _, _, _, _, _ => none
 | k + 1, x1, x15, x1439000, x1439001, x1439002 => if x15 = true then (some ([] : List ByteArray)) else ((impl_asked.f k x1439000 x1439001 x1439002 x1).bind fun bt1441 => ((impl_cache_keys.f k bt1441.1 bt1441.2.1 bt1441.2.2.1 bt1441.2.2.2.1 bt1441.2.2.2.2.1 bt1441.2.2.2.2.2.1 bt1441.2.2.2.2.2.2.1 bt1441.2.2.2.2.2.2.2.1).bind fun bt1462 => (some bt1462.1)))
def impl_Holds.f (k : Nat) (a0_0 : Int) (a0_1 : Int) (a0_2 : Int) (l1 : List ByteArray) : Option (List ByteArray) := (impl_SetupOk.f k a0_0 a0_1 a0_2).bind fun t1439 => (if t1439 = true then ((impl_AsksOk.f k l1).bind fun t1440 => (impl_Holds.j0 k l1 (!t1440) a0_0 a0_1 a0_2)) else (impl_Holds.j0 k l1 true a0_0 a0_1 a0_2))
set_option maxHeartbeats 8000000 in
set_option maxRecDepth 100000 in
theorem impl_Holds.calls (k : Nat) (a0_0 : Int) (a0_1 : Int) (a0_2 : Int) (A1 : Option Addr) (c1 : Nat) (l1 : List ByteArray) (r : List ByteArray) (w : World) (hr1 : Kd.C Kd.string w A1 l1.length l1) (hc1 : l1.length ≤ c1) (h : impl_Holds.f k a0_0 a0_1 a0_2 l1 = some r) :
  Calls Try.prog 25 #[.agg #[.int .i64 a0_0, .int .i64 a0_1, .int .i64 a0_2], .slice A1 l1.length c1] w fun e w' => ∃ v0_ : Value, e = .returned (v0_) ∧ Mem w [] w' [rowR Kd.string 9 v0_ r] := by
 have hu28 := Try.underlying28
 have HR1 := Aside0.mk hr1
 have HC1 := Aside0.mk hc1
 clear hr1 hc1
 have HM := Mem.nil w
 have H := h
 clear h
 unfold impl_Holds.f at H
 go_enter Try.func25, Try.ntmps25
 have HC4 := Aside0.mk H
 clear H
 go_upto_region 1 with (first | ((with_reducible refine gN 2 rfl ?_); refine pB 2 28 [.int .i64 a0_0, .int .i64 a0_1, .int .i64 a0_2] HM rfl ?_; clear HM; intro gb1438 w3 HM))
 go_cut [15] (fun v15 wc => ∃ (kq : Nat) (x15_3 : Bool), v15 = .bool x15_3 ∧ Aside0 (impl_Holds.j0 kq l1 x15_3 a0_0 a0_1 a0_2 = some r) ∧ Aside0 (kq ≤ k) ∧ Mem w [] wc [box 28 gb1438 [.int .i64 a0_0, .int .i64 a0_1, .int .i64 a0_2]])
 case first =>
  have H := HC4.out
  clear HC4
  replace H := BN H; obtain ⟨t1439, A6, H⟩ := H
  replace H := IB H
  rcases H with ⟨c8, H⟩ | ⟨c8, H⟩
  ·subst c8
   replace H := BN H; obtain ⟨t1440, A9, H⟩ := H
   have H' := Aside0.mk H
   clear H
   obtain ⟨z5_0, z5_1, z5_2, Z5_0, Z5_1, Z5_2⟩ := bk3 (HM.bx 0 rfl)
   go_wp2_with (first | ((with_reducible refine gC 39 rfl ?_); refine pC (some 9) rfl #[.agg #[.int .i64 a0_0, .int .i64 a0_1, .int .i64 a0_2]] rfl Try.func39 (impl_SetupOk.calls k a0_0 a0_1 a0_2 true _ A6.out) ?_; rintro e w7 ⟨rfl, hR⟩; refine ⟨_, rfl, ?_⟩; replace HM := HM.call hR; clear hR) | ((with_reducible refine gC 42 rfl ?_); refine pC (some 13) rfl #[.slice A1 l1.length c1] rfl Try.func42 (impl_AsksOk.calls k _ _ l1 t1440 _ (HM.came HR1.out) HC1.out A9.out) ?_; rintro e w10 ⟨rfl, hR⟩; refine ⟨_, rfl, ?_⟩; replace HM := HM.call hR; clear hR))
   go_meet
   case rel => exact ⟨_, (!t1440), RS, H', ⟨by first | omega | exact Nat.le_refl _⟩, (MD HM).pick [0]⟩
  ·subst c8
   have H' := Aside0.mk H
   clear H
   obtain ⟨z5_0, z5_1, z5_2, Z5_0, Z5_1, Z5_2⟩ := bk3 (HM.bx 0 rfl)
   go_wp2_with (first | ((with_reducible refine gC 39 rfl ?_); refine pC (some 9) rfl #[.agg #[.int .i64 a0_0, .int .i64 a0_1, .int .i64 a0_2]] rfl Try.func39 (impl_SetupOk.calls k a0_0 a0_1 a0_2 false _ A6.out) ?_; rintro e w7 ⟨rfl, hR⟩; refine ⟨_, rfl, ?_⟩; replace HM := HM.call hR; clear hR))
   go_meet
   case rel => exact ⟨_, (true), RS, H', ⟨by first | omega | exact Nat.le_refl _⟩, (MD HM).pick [0]⟩
 case rest =>
  clear HC4 HM
  obtain ⟨kq, x15_3, rfl, HA, HJ3, HM⟩ := hcut
  cases kq with
  | zero => exact absurd HA.out (by simp [impl_Holds.j0])
  | succ kj3 =>
   have H := HA.out
   clear HA
   simp only [impl_Holds.j0] at H
   go_upto_if 15 with (fail)
   replace H := IB H
   rcases H with ⟨c11, H⟩ | ⟨c11, H⟩
   ·subst c11
    obtain rfl := Option.some.inj H
    replace HM := HM.nl Kd.string 9
    go_wp2
    go_ret
    exact ⟨_, ER, (MD HM).pick [1]⟩
   ·subst c11
    replace H := BN H; obtain ⟨⟨t1441, t1442, t1443, t1446, t1447, t1448, t1451, t1454, t1457, t1460⟩, A13, H⟩ := H
    replace H := BN H; obtain ⟨⟨t1462, t1465, t1466, t1467, t1468⟩, A15, H⟩ := H
    obtain rfl := Option.some.inj H
    obtain ⟨z12_0, z12_1, z12_2, Z12_0, Z12_1, Z12_2⟩ := bk3 (HM.bx 0 rfl)
    go_wp2_with (first | ((with_reducible refine gC 50 rfl ?_); refine pC (some 19) rfl #[.agg #[.int .i64 a0_0, .int .i64 a0_1, .int .i64 a0_2], .slice A1 l1.length c1] rfl Try.func50 (impl_asked.calls kj3 a0_0 a0_1 a0_2 _ _ l1 t1441 t1442 t1443 t1446 t1447 t1448 t1451 t1454 t1457 t1460 _ (HM.came HR1.out) HC1.out A13.out) ?_; rintro e w14 ⟨v1444, v1449, v1452, v1455, v1458, gb1461, rfl, hR⟩; refine ⟨_, rfl, ?_⟩; replace HM := HM.call hR; clear hR; obtain ⟨Xo17, ko17, eo17⟩ := HM.rdR 1 rfl; subst eo17; replace HM := HM.toQ 1 rfl; obtain ⟨Xo18, ko18, eo18⟩ := HM.rdR 2 rfl; subst eo18; replace HM := HM.toQ 2 rfl; obtain ⟨Xo19, ko19, eo19⟩ := HM.rdR 3 rfl; subst eo19; replace HM := HM.toQ 3 rfl; obtain ⟨Xo20, ko20, eo20⟩ := HM.rdR 4 rfl; subst eo20; replace HM := HM.toQ 4 rfl) | ((with_reducible refine gC 54 rfl ?_); refine pC (some 24) rfl #[.pointer (some ⟨gb1461, 0, none⟩)] rfl Try.func54 (impl_cache_keys.calls kj3 gb1461 t1441 t1442 Xo17 ko17 t1443 t1446 t1447 Xo18 ko18 t1448 Xo19 ko19 t1451 Xo20 ko20 t1454 t1462 t1465 t1466 t1467 t1468 _ _ _ (HM.focus [0, 5] [1, 2, 3, 4, 6]) A15.out) ?_; rintro e w16 ⟨v1463, rfl, hR⟩; refine ⟨_, rfl, ?_⟩; replace HM := nzM hR.unfocus; clear hR))
    go_ret
    exact ⟨_, ER, (MD HM).pick [2]⟩
/-- A state of type 81 at block g of W; what its slices lead to came in by w0. -/
def IsS81 (w0 W : World) (g : Nat) (f0 : List Int) (f1 : Int) (f2 : Int) : Prop := ∃ A0 c0, W.heap[g]? = some (.cells #[.slice A0 f0.length c0, .int .i64 f1, .int .i64 f2] 81 (0, 0)) ∧ w0.heap.size ≤ g ∧ Kd.C (Kd.int .u8) w0 A0 f0.length f0
theorem IsS81.grown {w0 W : World} {g : Nat} {f0 : List Int} {f1 : Int} {f2 : Int} {W1 : World} {row : Option Nat} (h : IsS81 w0 W g f0 f1 f2) (hw : W.grownBy W1 row) (hne : some g ≠ row) : IsS81 w0 W1 g f0 f1 f2 := by
 obtain ⟨A0, c0, hb, hg, hr0⟩ := h
 exact ⟨A0, c0, blk_grown hb hw hne, hg, hr0⟩
theorem IsS81.kept {w0 W : World} {g : Nat} {f0 : List Int} {f1 : Int} {f2 : Int} {W1 : World} {S : Nat → Prop} (h : IsS81 w0 W g f0 f1 f2) (hk : Kept W W1 S) (hne : ¬ S g) : IsS81 w0 W1 g f0 f1 f2 := by
 obtain ⟨A0, c0, hb, hg, hr0⟩ := h
 exact ⟨A0, c0, blk_kept hb hk hne, hg, hr0⟩
theorem IsS81.below {w0 W : World} {g : Nat} {f0 : List Int} {f1 : Int} {f2 : Int} {W1 : World} (h : IsS81 w0 W g f0 f1 f2) (hw : Below W.heap.size W W1) : IsS81 w0 W1 g f0 f1 f2 := h.grown (grown_of_below hw none) (by simp)
theorem IsS81.alloc {w0 W : World} {g : Nat} {f0 : List Int} {f1 : Int} {f2 : Int} (h : IsS81 w0 W g f0 f1 f2) (o : Obj) : IsS81 w0 (W.alloc o) g f0 f1 f2 := h.below (below_alloc (Below.refl _ _) o)
theorem IsS81.drewN {w0 W : World} {g : Nat} {f0 : List Int} {f1 : Int} {f2 : Int} (h : IsS81 w0 W g f0 f1 f2) (m : Nat) : IsS81 w0 (W.drewN m) g f0 f1 f2 := h
theorem IsS81.drew {w0 W : World} {g : Nat} {f0 : List Int} {f1 : Int} {f2 : Int} (h : IsS81 w0 W g f0 f1 f2) : IsS81 w0 W.drew g f0 f1 f2 := h
theorem IsS81.at_ {w0 W : World} {g : Nat} {f0 : List Int} {f1 : Int} {f2 : Int} {w' : World} {m : Nat} (hq : W.drewN m = w') (h : IsS81 w0 W g f0 f1 f2) : IsS81 w0 w' g f0 f1 f2 := by subst hq; exact IsS81.drewN h m
theorem IsS81.apart {w0 W : World} {g : Nat} {f0 : List Int} {f1 : Int} {f2 : Int} {α : Type} {d : Kd α} {e : Nat} {base : Nat} {ok : Nat → Prop} {v : Value} {xs : List α} (h : IsS81 w0 W g f0 f1 f2) (ho : d.R e W base ok v xs) (ht : ∀ q, q ∈ e :: d.E → q ≠ 81) : d.R e W base (fun k => ok k ∧ k ≠ g) v xs := by
 obtain ⟨A0, c0, hb, hg, hr0⟩ := h
 exact Kd.R_types ho hb ht
theorem IsS81.lt {w0 W : World} {g : Nat} {f0 : List Int} {f1 : Int} {f2 : Int} (h : IsS81 w0 W g f0 f1 f2) : g < W.heap.size := by
 obtain ⟨A0, c0, hb, hg, hr0⟩ := h
 exact blk_lt hb
def spec_l01New.l0 : Nat → List Int → Int → Int → Option (List Int × Int × Int)
 | 0, _, _, _ => none
 | k + 1, x0, x3, x4 => if x4 < (x0.length : Int) then (if x4 < 4000 then (if 0 ≤ x4 then (spec_l01New.l0 k x0 (Go.bits .and .i64 (wrap64 ((wrap64 ((wrap64 (x3 * 179)) + (wrap64 (rd x0 x4)))) + 7)) 1073741823) (wrap64 (x4 + 1))) else (none)) else (some (x0, 0, x3))) else (some (x0, 0, x3))
def spec_l01New.f (k : Nat) (l0 : List Int) : Option (List Int × Int × Int) := spec_l01New.l0 k l0 (wrap64 (774119 + (l0.length : Int))) 0
set_option maxHeartbeats 8000000 in
set_option maxRecDepth 100000 in
theorem spec_l01New.calls (k : Nat) (A0 : Option Addr) (c0 : Nat) (l0 : List Int) (r1 : List Int) (r2 : Int) (r3 : Int) (w0 w : World) (hB : Below w0.heap.size w0 w) (hr0 : Kd.C (Kd.int .u8) w0 A0 l0.length l0) (hc0 : l0.length ≤ c0) (h : spec_l01New.f k l0 = some (r1, r2, r3)) :
  Calls Try.prog 56 #[.slice A0 l0.length c0] w fun e w' => ∃ g_ : Nat, ∃ (X0_ : Option Addr) (c0_ : Nat), e = .returned (.pointer (some ⟨g_, 0, none⟩)) ∧ Mem w [] w' [box 81 g_ [.slice X0_ r1.length c0_, .int .i64 r2, .int .i64 r3]] ∧ Kd.C (Kd.int .u8) w0 X0_ r1.length r1 ∧ r1.length ≤ c0_ := by
 have hu81 := Try.underlying81
 have HZ0 := Aside0.mk hr0
 have HR0 := Aside0.mk (Kd.C_below hr0 hB)
 have HC0 := Aside0.mk hc0
 clear hr0 hc0
 clear hB
 have HM := Mem.nil w
 have H := h
 clear h
 unfold spec_l01New.f at H
 go_enter Try.func56, Try.ntmps56
 have H' := Aside0.mk H
 clear H
 go_wp2
 go_loopg [3, 4] k (fun kq v3 v4 w' => ∃ (x3_1 : Int) (x4_1 : Int), v3 = .int .i64 x3_1 ∧ v4 = .int .i64 x4_1 ∧ Aside0 (spec_l01New.l0 kq l0 x3_1 x4_1 = some (r1, r2, r3)) ∧ Aside0 (kq ≤ k) ∧ Mem w [] w' [])
 case atStart => exact ⟨(wrap64 (774119 + (l0.length : Int))), (0), RS, RS, H', ⟨Nat.le_refl _⟩, (MD HM).pick []⟩
 case round =>
  clear H' HM
  obtain ⟨x3_1, x4_1, rfl, rfl, HA, HK1, HM⟩ := hrel
  cases gk with
  | zero => exact absurd HA.out (by simp [spec_l01New.l0])
  | succ k1 =>
   have H := HA.out
   clear HA
   simp only [spec_l01New.l0] at H
   replace H := IT H; rcases H with ⟨c2, H⟩ | ⟨c2, H⟩
   ·have c2b0 : decide (x4_1 < (l0.length : Int)) = true := decide_eq_true c2
    clear c2
    go_upto_if 15 with (fail)
    replace H := IT H; rcases H with ⟨c3, H⟩ | ⟨c3, H⟩
    ·have c3b0 : decide (x4_1 < 4000) = true := decide_eq_true c3
     clear c3
     (first | rw [c3b0] | (simp only [i64_w, i32_w]; rw [c3b0]) | skip)
     replace H := GD H; obtain ⟨c4, H⟩ := H
     have c4b0 : decide (0 ≤ x4_1) = true := decide_eq_true c4
     clear c4
     have H' := Aside0.mk H
     clear H
     have p1526 : 0 ≤ (x4_1 : Int) := of_decide_eq_true AS
     have q1526 : (x4_1 : Int) < (l0.length : Int) := of_decide_eq_true AS
     obtain ⟨ad1526, e1526, hx1526_0⟩ := Kd.at_int (HM.came HR0.out) x4_1 p1526 q1526
     cases e1526
     replace p1526 := eq_true p1526
     replace q1526 := eq_true q1526
     go_wp2
     go_roundg k1
     case measure => have := HK1.out; omega
     case rel => exact ⟨(Go.bits .and .i64 (wrap64 ((wrap64 ((wrap64 (x3_1 * 179)) + (wrap64 (rd l0 x4_1)))) + 7)) 1073741823), (wrap64 (x4_1 + 1)), RS, RS, H', ⟨by have := HK1.out; omega⟩, (MD HM).pick []⟩
    ·have c3b0 : decide (x4_1 < 4000) = false := decide_eq_false c3
     clear c3
     (first | rw [c3b0] | (simp only [i64_w, i32_w]; rw [c3b0]) | skip)
     simp only [Option.some.injEq, Prod.mk.injEq] at H
     obtain ⟨rfl, rfl, rfl⟩ := H
     go_wp2_with (first | ((with_reducible refine gN 31 rfl ?_); refine pB 31 81 [.slice A0 l0.length c0, .int .i64 0, .int .i64 x3_1] HM rfl ?_; clear HM; intro gb1527 w5 HM))
     go_ret
     exact ⟨_, _, _, ER, (MD HM).pick [0], HZ0.out, HC0.out⟩
   ·have c2b0 : decide (x4_1 < (l0.length : Int)) = false := decide_eq_false c2
    clear c2
    simp only [Option.some.injEq, Prod.mk.injEq] at H
    obtain ⟨rfl, rfl, rfl⟩ := H
    go_wp2_with (first | ((with_reducible refine gN 31 rfl ?_); refine pB 31 81 [.slice A0 l0.length c0, .int .i64 0, .int .i64 x3_1] HM rfl ?_; clear HM; intro gb1528 w6 HM))
    go_ret
    exact ⟨_, _, _, ER, (MD HM).pick [0], HZ0.out, HC0.out⟩
def spec_l01Byte.f (s0_0 : List Int) (s0_1 : Int) (s0_2 : Int) : Option (Int × Int × Int) := if s0_1 < (s0_0.length : Int) then (if 0 ≤ s0_1 then (some (Go.bits .and .i64 (wrap64 ((Go.bits .and .i64 (Go.bits .xor .i64 ((wrap64 ((wrap64 (s0_2 * 6364136223846793005)) + 1442695040888963407)) / 8589934592) ((wrap64 ((wrap64 (s0_2 * 6364136223846793005)) + 1442695040888963407)) / 35184372088832)) 255) + (wrap64 (rd s0_0 s0_1)))) 255, wrap64 (s0_1 + 1), wrap64 ((wrap64 (s0_2 * 6364136223846793005)) + 1442695040888963407))) else (none)) else (some (Go.bits .and .i64 (Go.bits .xor .i64 ((wrap64 ((wrap64 (s0_2 * 6364136223846793005)) + 1442695040888963407)) / 8589934592) ((wrap64 ((wrap64 (s0_2 * 6364136223846793005)) + 1442695040888963407)) / 35184372088832)) 255, s0_1, wrap64 ((wrap64 (s0_2 * 6364136223846793005)) + 1442695040888963407)))
set_option maxHeartbeats 8000000 in
set_option maxRecDepth 100000 in
theorem spec_l01Byte.calls (g : Nat) (A0_0 : Option Addr) (c0_0 : Nat) (s0_0 : List Int) (s0_1 : Int) (s0_2 : Int) (r1 : Int) (r2 : Int) (r3 : Int) (w0 w : World) (F : List SP) (hrs0_0 : Kd.C (Kd.int .u8) w0 A0_0 s0_0.length s0_0) (hcs0_0 : s0_0.length ≤ c0_0) (hM : Mem w0 F w [box 81 g [.slice A0_0 s0_0.length c0_0, .int .i64 s0_1, .int .i64 s0_2]]) (h : spec_l01Byte.f s0_0 s0_1 s0_2 = some (r1, r2, r3)) :
  Calls Try.prog 81 #[.pointer (some ⟨g, 0, none⟩)] w fun e w' => e = .returned (.int .i64 r1) ∧ Mem w0 F w' [box 81 g [.slice A0_0 s0_0.length c0_0, .int .i64 r2, .int .i64 r3]] := by
 have HRs0_0 := Aside0.mk hrs0_0
 have HCs0_0 := Aside0.mk hcs0_0
 clear hrs0_0 hcs0_0
 have HM := hM
 clear hM
 have H := h
 clear h
 unfold spec_l01Byte.f at H
 go_enter Try.func81, Try.ntmps81
 obtain ⟨z2_0, z2_1, z2_2, Z2_0, Z2_1, Z2_2⟩ := bk3 (HM.bx 0 rfl)
 go_upto_if 34 with (first | ((with_reducible refine gS 12 rfl ?_); refine pS 0 12 2 [.int .i64 (wrap64 ((wrap64 (s0_2 * 6364136223846793005)) + 1442695040888963407))] HM rfl rfl ?_; clear HM; intro w3 HM; obtain ⟨z4_0, z4_1, z4_2, Z4_0, Z4_1, Z4_2⟩ := bk3 (HM.bx 0 rfl)))
 repeat (go_quiet (first | ((with_reducible refine gS 12 rfl ?_); refine pS 0 12 2 [.int .i64 (wrap64 ((wrap64 (s0_2 * 6364136223846793005)) + 1442695040888963407))] HM rfl rfl ?_; clear HM; intro w3 HM; obtain ⟨z4_0, z4_1, z4_2, Z4_0, Z4_1, Z4_2⟩ := bk3 (HM.bx 0 rfl))); go_upto_if 34 with (first | ((with_reducible refine gS 12 rfl ?_); refine pS 0 12 2 [.int .i64 (wrap64 ((wrap64 (s0_2 * 6364136223846793005)) + 1442695040888963407))] HM rfl rfl ?_; clear HM; intro w3 HM; obtain ⟨z4_0, z4_1, z4_2, Z4_0, Z4_1, Z4_2⟩ := bk3 (HM.bx 0 rfl))))
 replace H := IT H; rcases H with ⟨c5, H⟩ | ⟨c5, H⟩
 ·have c5b0 : decide (s0_1 < (s0_0.length : Int)) = true := decide_eq_true c5
  clear c5
  (first | rw [c5b0] | (simp only [i64_w, i32_w]; rw [c5b0]) | skip)
  replace H := GD H; obtain ⟨c6, H⟩ := H
  have c6b0 : decide (0 ≤ s0_1) = true := decide_eq_true c6
  clear c6
  simp only [Option.some.injEq, Prod.mk.injEq] at H
  obtain ⟨rfl, rfl, rfl⟩ := H
  have p1529 : 0 ≤ (s0_1 : Int) := of_decide_eq_true AS
  have q1529 : (s0_1 : Int) < (s0_0.length : Int) := of_decide_eq_true AS
  obtain ⟨ad1529, e1529, hx1529_0⟩ := Kd.at_int (HM.came HRs0_0.out) s0_1 p1529 q1529
  cases e1529
  replace p1529 := eq_true p1529
  replace q1529 := eq_true q1529
  go_wp2_with (first | ((with_reducible refine gS 56 rfl ?_); refine pS 0 56 1 [.int .i64 (wrap64 (s0_1 + 1))] HM rfl rfl ?_; clear HM; intro w7 HM))
  repeat (go_quiet (first | ((with_reducible refine gS 56 rfl ?_); refine pS 0 56 1 [.int .i64 (wrap64 (s0_1 + 1))] HM rfl rfl ?_; clear HM; intro w7 HM)); try go_wp2_with (first | ((with_reducible refine gS 56 rfl ?_); refine pS 0 56 1 [.int .i64 (wrap64 (s0_1 + 1))] HM rfl rfl ?_; clear HM; intro w7 HM)))
  go_ret
  exact ⟨ER, (MD HM).pick [0]⟩
 ·have c5b0 : decide (s0_1 < (s0_0.length : Int)) = false := decide_eq_false c5
  clear c5
  (first | rw [c5b0] | (simp only [i64_w, i32_w]; rw [c5b0]) | skip)
  simp only [Option.some.injEq, Prod.mk.injEq] at H
  obtain ⟨rfl, rfl, rfl⟩ := H
  go_wp2
  repeat (go_quiet (fail); try go_wp2_with (fail))
  go_ret
  exact ⟨ER, (MD HM).pick [0]⟩
def spec_l01Below.f (s0_0 : List Int) (s0_1 : Int) (s0_2 : Int) (a1 : Int) : Option (Int × Int × Int) := if a1 ≤ 0 then (some (0, s0_1, s0_2)) else (if a1 ≤ 256 then ((spec_l01Byte.f s0_0 s0_1 s0_2).bind fun bt1530 => (if a1 = 0 then (none) else (some (Int.tmod bt1530.1 a1, bt1530.2.1, bt1530.2.2)))) else ((spec_l01Byte.f s0_0 s0_1 s0_2).bind fun bt1533 => ((spec_l01Byte.f s0_0 bt1533.2.1 bt1533.2.2).bind fun bt1536 => ((spec_l01Byte.f s0_0 bt1536.2.1 bt1536.2.2).bind fun bt1539 => ((spec_l01Byte.f s0_0 bt1539.2.1 bt1539.2.2).bind fun bt1542 => (if a1 = 0 then (none) else (some (Int.tmod (wrap64 ((wrap64 ((wrap64 ((wrap64 (bt1533.1 * 16777216)) + (wrap64 (bt1536.1 * 65536)))) + (wrap64 (bt1539.1 * 256)))) + bt1542.1)) a1, bt1542.2.1, bt1542.2.2))))))))
set_option maxHeartbeats 8000000 in
set_option maxRecDepth 100000 in
theorem spec_l01Below.calls (g : Nat) (A0_0 : Option Addr) (c0_0 : Nat) (s0_0 : List Int) (s0_1 : Int) (s0_2 : Int) (a1 : Int) (r1 : Int) (r2 : Int) (r3 : Int) (w0 w : World) (F : List SP) (hrs0_0 : Kd.C (Kd.int .u8) w0 A0_0 s0_0.length s0_0) (hcs0_0 : s0_0.length ≤ c0_0) (hM : Mem w0 F w [box 81 g [.slice A0_0 s0_0.length c0_0, .int .i64 s0_1, .int .i64 s0_2]]) (h : spec_l01Below.f s0_0 s0_1 s0_2 a1 = some (r1, r2, r3)) :
  Calls Try.prog 58 #[.pointer (some ⟨g, 0, none⟩), .int .i64 a1] w fun e w' => e = .returned (.int .i64 r1) ∧ Mem w0 F w' [box 81 g [.slice A0_0 s0_0.length c0_0, .int .i64 r2, .int .i64 r3]] := by
 have HRs0_0 := Aside0.mk hrs0_0
 have HCs0_0 := Aside0.mk hcs0_0
 clear hrs0_0 hcs0_0
 have HM := hM
 clear hM
 have H := h
 clear h
 unfold spec_l01Below.f at H
 go_enter Try.func58, Try.ntmps58
 go_upto_if 10 with (fail)
 replace H := IT H; rcases H with ⟨c3, H⟩ | ⟨c3, H⟩
 ·have c3b0 : decide (a1 ≤ 0) = true := decide_eq_true c3
  clear c3
  (first | rw [c3b0] | (simp only [i64_w, i32_w]; rw [c3b0]) | skip)
  simp only [Option.some.injEq, Prod.mk.injEq] at H
  obtain ⟨rfl, rfl, rfl⟩ := H
  go_wp2
  go_ret
  exact ⟨ER, (MD HM).pick [0]⟩
 ·have c3b0 : decide (a1 ≤ 0) = false := decide_eq_false c3
  clear c3
  (first | rw [c3b0] | (simp only [i64_w, i32_w]; rw [c3b0]) | skip)
  go_upto_if 12 with (fail)
  replace H := IT H; rcases H with ⟨c4, H⟩ | ⟨c4, H⟩
  ·have c4b0 : decide (a1 ≤ 256) = true := decide_eq_true c4
   clear c4
   (first | rw [c4b0] | (simp only [i64_w, i32_w]; rw [c4b0]) | skip)
   replace H := BN H; obtain ⟨⟨t1530, t1531, t1532⟩, A5, H⟩ := H
   replace H := GN H; obtain ⟨c7, H⟩ := H
   have c7b0 : (a1 == 0) = false := beq_eq_false_iff_ne.mpr c7
   have c7b1 : (a1 != 0) = true := bne_iff_ne.mpr c7
   simp only [Option.some.injEq, Prod.mk.injEq] at H
   obtain ⟨rfl, rfl, rfl⟩ := H
   go_wp2_with (first | ((with_reducible refine gC 81 rfl ?_); refine pC (some 14) rfl #[.pointer (some ⟨g, 0, none⟩)] rfl Try.func81 (spec_l01Byte.calls g A0_0 c0_0 s0_0 s0_1 s0_2 t1530 t1531 t1532 _ _ _ HRs0_0.out HCs0_0.out (HM.focus [] [0]) A5.out) ?_; rintro e w6 ⟨rfl, hR⟩; refine ⟨_, rfl, ?_⟩; replace HM := nzM hR.unfocus; clear hR))
   go_ret
   exact ⟨ER, (MD HM).pick [0]⟩
  ·have c4b0 : decide (a1 ≤ 256) = false := decide_eq_false c4
   clear c4
   (first | rw [c4b0] | (simp only [i64_w, i32_w]; rw [c4b0]) | skip)
   replace H := BN H; obtain ⟨⟨t1533, t1534, t1535⟩, A8, H⟩ := H
   replace H := BN H; obtain ⟨⟨t1536, t1537, t1538⟩, A10, H⟩ := H
   replace H := BN H; obtain ⟨⟨t1539, t1540, t1541⟩, A12, H⟩ := H
   replace H := BN H; obtain ⟨⟨t1542, t1543, t1544⟩, A14, H⟩ := H
   replace H := GN H; obtain ⟨c16, H⟩ := H
   have c16b0 : (a1 == 0) = false := beq_eq_false_iff_ne.mpr c16
   have c16b1 : (a1 != 0) = true := bne_iff_ne.mpr c16
   simp only [Option.some.injEq, Prod.mk.injEq] at H
   obtain ⟨rfl, rfl, rfl⟩ := H
   go_wp2_with (first | ((with_reducible refine gC 81 rfl ?_); refine pC (some 18) rfl #[.pointer (some ⟨g, 0, none⟩)] rfl Try.func81 (spec_l01Byte.calls g A0_0 c0_0 s0_0 s0_1 s0_2 t1533 t1534 t1535 _ _ _ HRs0_0.out HCs0_0.out (HM.focus [] [0]) A8.out) ?_; rintro e w9 ⟨rfl, hR⟩; refine ⟨_, rfl, ?_⟩; replace HM := nzM hR.unfocus; clear hR) | ((with_reducible refine gC 81 rfl ?_); refine pC (some 20) rfl #[.pointer (some ⟨g, 0, none⟩)] rfl Try.func81 (spec_l01Byte.calls g A0_0 c0_0 s0_0 t1534 t1535 t1536 t1537 t1538 _ _ _ HRs0_0.out HCs0_0.out (HM.focus [] [0]) A10.out) ?_; rintro e w11 ⟨rfl, hR⟩; refine ⟨_, rfl, ?_⟩; replace HM := nzM hR.unfocus; clear hR) | ((with_reducible refine gC 81 rfl ?_); refine pC (some 22) rfl #[.pointer (some ⟨g, 0, none⟩)] rfl Try.func81 (spec_l01Byte.calls g A0_0 c0_0 s0_0 t1537 t1538 t1539 t1540 t1541 _ _ _ HRs0_0.out HCs0_0.out (HM.focus [] [0]) A12.out) ?_; rintro e w13 ⟨rfl, hR⟩; refine ⟨_, rfl, ?_⟩; replace HM := nzM hR.unfocus; clear hR) | ((with_reducible refine gC 81 rfl ?_); refine pC (some 24) rfl #[.pointer (some ⟨g, 0, none⟩)] rfl Try.func81 (spec_l01Byte.calls g A0_0 c0_0 s0_0 t1540 t1541 t1542 t1543 t1544 _ _ _ HRs0_0.out HCs0_0.out (HM.focus [] [0]) A14.out) ?_; rintro e w15 ⟨rfl, hR⟩; refine ⟨_, rfl, ?_⟩; replace HM := nzM hR.unfocus; clear hR))
   go_ret
   exact ⟨ER, (MD HM).pick [0]⟩
def spec_l01Of.f (s0_0 : List Int) (s0_1 : Int) (s0_2 : Int) (l1 : List ByteArray) : Option (ByteArray × Int × Int) := (spec_l01Below.f s0_0 s0_1 s0_2 (l1.length : Int)).bind fun bt1545 => (if 0 ≤ bt1545.1 then (if bt1545.1 < (l1.length : Int) then (some (rdOf ByteArray.empty l1 bt1545.1, bt1545.2.1, bt1545.2.2)) else (none)) else (none))
set_option maxHeartbeats 8000000 in
set_option maxRecDepth 100000 in
theorem spec_l01Of.calls (g : Nat) (A0_0 : Option Addr) (c0_0 : Nat) (s0_0 : List Int) (s0_1 : Int) (s0_2 : Int) (A1 : Option Addr) (c1 : Nat) (l1 : List ByteArray) (r1 : ByteArray) (r2 : Int) (r3 : Int) (w0 w : World) (F : List SP) (hrs0_0 : Kd.C (Kd.int .u8) w0 A0_0 s0_0.length s0_0) (hcs0_0 : s0_0.length ≤ c0_0) (hM : Mem w0 F w [box 81 g [.slice A0_0 s0_0.length c0_0, .int .i64 s0_1, .int .i64 s0_2], row Kd.string 9 (.slice A1 l1.length c1) l1]) (h : spec_l01Of.f s0_0 s0_1 s0_2 l1 = some (r1, r2, r3)) :
  Calls Try.prog 101 #[.pointer (some ⟨g, 0, none⟩), .slice A1 l1.length c1] w fun e w' => e = .returned (.string r1) ∧ Mem w0 F w' [box 81 g [.slice A0_0 s0_0.length c0_0, .int .i64 r2, .int .i64 r3], row Kd.string 9 (.slice A1 l1.length c1) l1] := by
 have HRs0_0 := Aside0.mk hrs0_0
 have HCs0_0 := Aside0.mk hcs0_0
 clear hrs0_0 hcs0_0
 have HM := hM
 clear hM
 have H := h
 clear h
 unfold spec_l01Of.f at H
 go_enter Try.func101, Try.ntmps101
 replace H := BN H; obtain ⟨⟨t1545, t1546, t1547⟩, A3, H⟩ := H
 replace H := GD H; obtain ⟨c5, H⟩ := H
 have c5b0 : decide (0 ≤ t1545) = true := decide_eq_true c5
 clear c5
 replace H := GD H; obtain ⟨c6, H⟩ := H
 have c6b0 : decide (t1545 < (l1.length : Int)) = true := decide_eq_true c6
 clear c6
 simp only [Option.some.injEq, Prod.mk.injEq] at H
 obtain ⟨rfl, rfl, rfl⟩ := H
 go_wp2_with (first | ((with_reducible refine gC 58 rfl ?_); refine pC (some 9) rfl #[.pointer (some ⟨g, 0, none⟩), .int .i64 (l1.length : Int)] rfl Try.func58 (spec_l01Below.calls g A0_0 c0_0 s0_0 s0_1 s0_2 (l1.length : Int) t1545 t1546 t1547 _ _ _ HRs0_0.out HCs0_0.out (HM.focus [1] [0]) A3.out) ?_; rintro e w4 ⟨rfl, hR⟩; refine ⟨_, rfl, ?_⟩; replace HM := nzM hR.unfocus; clear hR; have p1548 : 0 ≤ (t1545 : Int) := of_decide_eq_true AS; have q1548 : (t1545 : Int) < (l1.length : Int) := of_decide_eq_true AS; obtain ⟨ad1548, e1548, hx1548_0⟩ := Kd.at_string (HM.C 0 rfl).2.2 t1545 p1548 q1548; cases e1548; replace p1548 := eq_true p1548; replace q1548 := eq_true q1548))
 go_ret
 exact ⟨ER, (MD HM).pick [1, 0]⟩
def spec_l10Key.f (s0_0 : List Int) (s0_1 : Int) (s0_2 : Int) : Option (ByteArray × Int × Int) := (spec_l01Of.f s0_0 s0_1 s0_2 (([(⟨#[97]⟩ : ByteArray), (⟨#[98]⟩ : ByteArray), (⟨#[99]⟩ : ByteArray), (⟨#[100]⟩ : ByteArray), (⟨#[101]⟩ : ByteArray), (⟨#[102]⟩ : ByteArray), (⟨#[103]⟩ : ByteArray), (⟨#[104]⟩ : ByteArray)] : List ByteArray))).bind fun bt1552 => (some (bt1552.1, bt1552.2.1, bt1552.2.2))
set_option maxHeartbeats 8000000 in
set_option maxRecDepth 100000 in
theorem spec_l10Key.calls (g : Nat) (A0_0 : Option Addr) (c0_0 : Nat) (s0_0 : List Int) (s0_1 : Int) (s0_2 : Int) (r1 : ByteArray) (r2 : Int) (r3 : Int) (w0 w : World) (F : List SP) (hrs0_0 : Kd.C (Kd.int .u8) w0 A0_0 s0_0.length s0_0) (hcs0_0 : s0_0.length ≤ c0_0) (hM : Mem w0 F w [box 81 g [.slice A0_0 s0_0.length c0_0, .int .i64 s0_1, .int .i64 s0_2]]) (h : spec_l10Key.f s0_0 s0_1 s0_2 = some (r1, r2, r3)) :
  Calls Try.prog 80 #[.pointer (some ⟨g, 0, none⟩)] w fun e w' => e = .returned (.string r1) ∧ Mem w0 F w' [box 81 g [.slice A0_0 s0_0.length c0_0, .int .i64 r2, .int .i64 r3]] := by
 have HRs0_0 := Aside0.mk hrs0_0
 have HCs0_0 := Aside0.mk hcs0_0
 clear hrs0_0 hcs0_0
 have HM := hM
 clear hM
 have H := h
 clear h
 unfold spec_l10Key.f at H
 go_enter Try.func80, Try.ntmps80
 replace H := BN H; obtain ⟨⟨t1552, t1553, t1554⟩, A3, H⟩ := H
 simp only [Option.some.injEq, Prod.mk.injEq] at H
 obtain ⟨rfl, rfl, rfl⟩ := H
 go_wp2_with (first | ((with_reducible refine gN 4 rfl ?_); refine pL 4 Kd.string 9 ([(⟨#[97]⟩ : ByteArray), (⟨#[98]⟩ : ByteArray), (⟨#[99]⟩ : ByteArray), (⟨#[100]⟩ : ByteArray), (⟨#[101]⟩ : ByteArray), (⟨#[102]⟩ : ByteArray), (⟨#[103]⟩ : ByteArray), (⟨#[104]⟩ : ByteArray)] : List ByteArray) [.string (⟨#[97]⟩ : ByteArray), .string (⟨#[98]⟩ : ByteArray), .string (⟨#[99]⟩ : ByteArray), .string (⟨#[100]⟩ : ByteArray), .string (⟨#[101]⟩ : ByteArray), .string (⟨#[102]⟩ : ByteArray), .string (⟨#[103]⟩ : ByteArray), .string (⟨#[104]⟩ : ByteArray)] (Reps.one (show Kd.M Kd.string _ _ _ (⟨#[97]⟩ : ByteArray) [.string (⟨#[97]⟩ : ByteArray)] from rfl) (Reps.one (show Kd.M Kd.string _ _ _ (⟨#[98]⟩ : ByteArray) [.string (⟨#[98]⟩ : ByteArray)] from rfl) (Reps.one (show Kd.M Kd.string _ _ _ (⟨#[99]⟩ : ByteArray) [.string (⟨#[99]⟩ : ByteArray)] from rfl) (Reps.one (show Kd.M Kd.string _ _ _ (⟨#[100]⟩ : ByteArray) [.string (⟨#[100]⟩ : ByteArray)] from rfl) (Reps.one (show Kd.M Kd.string _ _ _ (⟨#[101]⟩ : ByteArray) [.string (⟨#[101]⟩ : ByteArray)] from rfl) (Reps.one (show Kd.M Kd.string _ _ _ (⟨#[102]⟩ : ByteArray) [.string (⟨#[102]⟩ : ByteArray)] from rfl) (Reps.one (show Kd.M Kd.string _ _ _ (⟨#[103]⟩ : ByteArray) [.string (⟨#[103]⟩ : ByteArray)] from rfl) (Reps.one (show Kd.M Kd.string _ _ _ (⟨#[104]⟩ : ByteArray) [.string (⟨#[104]⟩ : ByteArray)] from rfl) (Reps.none _ _))))))))) HM rfl ?_; clear HM; intro v1550 w2 HM; obtain ⟨Xo5, ko5, eo5⟩ := HM.rdR 1 rfl; subst eo5; replace HM := HM.toQ 1 rfl) | ((with_reducible refine gC 101 rfl ?_); refine pC (some 5) rfl #[.pointer (some ⟨g, 0, none⟩), .slice Xo5 (([(⟨#[97]⟩ : ByteArray), (⟨#[98]⟩ : ByteArray), (⟨#[99]⟩ : ByteArray), (⟨#[100]⟩ : ByteArray), (⟨#[101]⟩ : ByteArray), (⟨#[102]⟩ : ByteArray), (⟨#[103]⟩ : ByteArray), (⟨#[104]⟩ : ByteArray)] : List ByteArray)).length ko5] rfl Try.func101 (spec_l01Of.calls g A0_0 c0_0 s0_0 s0_1 s0_2 Xo5 ko5 (([(⟨#[97]⟩ : ByteArray), (⟨#[98]⟩ : ByteArray), (⟨#[99]⟩ : ByteArray), (⟨#[100]⟩ : ByteArray), (⟨#[101]⟩ : ByteArray), (⟨#[102]⟩ : ByteArray), (⟨#[103]⟩ : ByteArray), (⟨#[104]⟩ : ByteArray)] : List ByteArray)) t1552 t1553 t1554 _ _ _ HRs0_0.out HCs0_0.out (HM.focus [] [0, 1]) A3.out) ?_; rintro e w4 ⟨rfl, hR⟩; refine ⟨_, rfl, ?_⟩; replace HM := nzM hR.unfocus; clear hR))
 go_ret
 exact ⟨ER, (MD HM).pick [0]⟩
mutual
def spec_l12Asks.l0 : Nat → List ByteArray → Int → List Int → Int → Int → Option (List ByteArray × Int × Int)
 | 0, _, _, _, _, _ => none
 | k + 1, x5, x6, x1000, x1001, x1002 => if x6 > 0 then ((spec_l01Below.f x1000 x1001 x1002 3).bind fun bt1561 => (if bt1561.1 = 0 then (spec_l12Asks.j1 k x5 x6 (decide ((x5.length : Int) > 0)) x1000 bt1561.2.1 bt1561.2.2) else (spec_l12Asks.j1 k x5 x6 false x1000 bt1561.2.1 bt1561.2.2))) else (some (x5, x1001, x1002))
def spec_l12Asks.j1 : Nat → List ByteArray → Int → Bool → List Int → Int → Int → Option (List ByteArray × Int × Int)
 | 0, _, _, _, _, _, _ => none
 | k + 1, x5, x6, x25, x1000, x1001, x1002 => if x25 = true then ((spec_l01Below.f x1000 x1001 x1002 (x5.length : Int)).bind fun bt1564 => (if 0 ≤ bt1564.1 then (if bt1564.1 < (x5.length : Int) then (if x5.length < 8796093022208 then (spec_l12Asks.l0 k (x5 ++ [rdOf ByteArray.empty x5 bt1564.1]) (wrap64 (x6 - 1)) x1000 bt1564.2.1 bt1564.2.2) else (none)) else (none)) else (none))) else ((spec_l10Key.f x1000 x1001 x1002).bind fun bt1571 => (if x5.length < 8796093022208 then (spec_l12Asks.l0 k (x5 ++ [bt1571.1]) (wrap64 (x6 - 1)) x1000 bt1571.2.1 bt1571.2.2) else (none)))
end
def spec_l12Asks.f (k : Nat) (s0_0 : List Int) (s0_1 : Int) (s0_2 : Int) (a1 : Int) : Option (List ByteArray × Int × Int) := (spec_l01Below.f s0_0 s0_1 s0_2 (wrap64 (a1 + 1))).bind fun bt1558 => (spec_l12Asks.l0 k (([] : List ByteArray)) bt1558.1 s0_0 bt1558.2.1 bt1558.2.2)
set_option maxHeartbeats 8000000 in
set_option maxRecDepth 100000 in
theorem spec_l12Asks.calls (k : Nat) (g : Nat) (A0_0 : Option Addr) (c0_0 : Nat) (s0_0 : List Int) (s0_1 : Int) (s0_2 : Int) (a1 : Int) (r1 : List ByteArray) (r2 : Int) (r3 : Int) (w0 w : World) (F : List SP) (hrs0_0 : Kd.C (Kd.int .u8) w0 A0_0 s0_0.length s0_0) (hcs0_0 : s0_0.length ≤ c0_0) (hM : Mem w0 F w [box 81 g [.slice A0_0 s0_0.length c0_0, .int .i64 s0_1, .int .i64 s0_2]]) (h : spec_l12Asks.f k s0_0 s0_1 s0_2 a1 = some (r1, r2, r3)) :
  Calls Try.prog 57 #[.pointer (some ⟨g, 0, none⟩), .int .i64 a1] w fun e w' => ∃ v0_ : Value, e = .returned (v0_) ∧ Mem w0 F w' [rowR Kd.string 9 v0_ r1, box 81 g [.slice A0_0 s0_0.length c0_0, .int .i64 r2, .int .i64 r3]] := by
 have HRs0_0 := Aside0.mk hrs0_0
 have HCs0_0 := Aside0.mk hcs0_0
 clear hrs0_0 hcs0_0
 have HM := hM
 clear hM
 have H := h
 clear h
 unfold spec_l12Asks.f at H
 go_enter Try.func57, Try.ntmps57
 replace H := BN H; obtain ⟨⟨t1558, t1559, t1560⟩, A4, H⟩ := H
 have H' := Aside0.mk H
 clear H
 go_wp2_with (first | ((with_reducible refine gN 8 rfl ?_); refine pL 8 Kd.string 9 ([] : List ByteArray) [] (Reps.none _ _) HM rfl ?_; clear HM; intro v1556 w3 HM) | ((with_reducible refine gC 58 rfl ?_); refine pC (some 12) rfl #[.pointer (some ⟨g, 0, none⟩), .int .i64 (wrap64 (a1 + 1))] rfl Try.func58 (spec_l01Below.calls g A0_0 c0_0 s0_0 s0_1 s0_2 (wrap64 (a1 + 1)) t1558 t1559 t1560 _ _ _ HRs0_0.out HCs0_0.out (HM.focus [1] [0]) A4.out) ?_; rintro e w5 ⟨rfl, hR⟩; refine ⟨_, rfl, ?_⟩; replace HM := nzM hR.unfocus; clear hR))
 go_loopg [5, 6] k (fun kq v5 v6 w' => ∃ (x5_1 : List ByteArray) (x6_1 : Int) (x1001_1 : Int) (x1002_1 : Int), v6 = .int .i64 x6_1 ∧ Aside0 (spec_l12Asks.l0 kq x5_1 x6_1 s0_0 x1001_1 x1002_1 = some (r1, r2, r3)) ∧ Aside0 (kq ≤ k) ∧ Mem w0 F w' [rowR Kd.string 9 v5 x5_1, box 81 g [.slice A0_0 s0_0.length c0_0, .int .i64 x1001_1, .int .i64 x1002_1]])
 case atStart => exact ⟨((([] : List ByteArray))), (t1558), (t1559), (t1560), RS, H', ⟨Nat.le_refl _⟩, (MD HM).pick [0, 1]⟩
 case round =>
  clear H' HM
  obtain ⟨x5_1, x6_1, x1001_1, x1002_1, rfl, HA, HK1, HM⟩ := hrel
  cases gk with
  | zero => exact absurd HA.out (by simp [spec_l12Asks.l0])
  | succ k1 =>
   have H := HA.out
   clear HA
   simp only [spec_l12Asks.l0] at H
   go_upto_if 14 with (fail)
   replace H := IT H; rcases H with ⟨c6, H⟩ | ⟨c6, H⟩
   ·have c6b0 : decide (0 < x6_1) = true := decide_eq_true c6
    clear c6
    (first | rw [c6b0] | (simp only [i64_w, i32_w]; rw [c6b0]) | skip)
    replace H := BN H; obtain ⟨⟨t1561, t1562, t1563⟩, A7, H⟩ := H
    have HC9 := Aside0.mk H
    clear H
    go_upto_region 6 with (first | ((with_reducible refine gC 58 rfl ?_); refine pC (some 18) rfl #[.pointer (some ⟨g, 0, none⟩), .int .i64 3] rfl Try.func58 (spec_l01Below.calls g A0_0 c0_0 s0_0 x1001_1 x1002_1 3 t1561 t1562 t1563 _ _ _ HRs0_0.out HCs0_0.out (HM.focus [0] [1]) A7.out) ?_; rintro e w8 ⟨rfl, hR⟩; refine ⟨_, rfl, ?_⟩; replace HM := nzM hR.unfocus; clear hR))
    go_cut [25] (fun v25 wc => ∃ (kq : Nat) (x25_8 : Bool), v25 = .bool x25_8 ∧ Aside0 (spec_l12Asks.j1 kq x5_1 x6_1 x25_8 s0_0 t1562 t1563 = some (r1, r2, r3)) ∧ Aside0 (kq ≤ k1) ∧ Mem w0 F wc [rowR Kd.string 9 u5 x5_1, box 81 g [.slice A0_0 s0_0.length c0_0, .int .i64 t1562, .int .i64 t1563]])
    case first =>
     have H := HC9.out
     clear HC9
     replace H := IT H; rcases H with ⟨c10, H⟩ | ⟨c10, H⟩
     ·have c10b0 : (t1561 == 0) = true := beq_iff_eq.mpr c10
      have c10b1 : (t1561 != 0) = false := bne_eq_false_iff_eq.mpr c10
      clear c10
      have H' := Aside0.mk H
      clear H
      obtain ⟨Xo11, ko11, eo11⟩ := HM.rdR 0 rfl
      subst eo11
      go_wp2
      go_meet
      case rel => exact ⟨_, (decide ((x5_1.length : Int) > 0)), RS, H', ⟨by have := HK1.out; first | omega | exact Nat.le_refl _⟩, (MD HM).pick [0, 1]⟩
     ·have c10b0 : (t1561 == 0) = false := beq_eq_false_iff_ne.mpr c10
      have c10b1 : (t1561 != 0) = true := bne_iff_ne.mpr c10
      have H' := Aside0.mk H
      clear H
      go_wp2
      go_meet
      case rel => exact ⟨_, (false), RS, H', ⟨by have := HK1.out; first | omega | exact Nat.le_refl _⟩, (MD HM).pick [0, 1]⟩
    case rest =>
     clear HC9 HM
     obtain ⟨kq, x25_8, rfl, HA, HJ8, HM⟩ := hcut
     cases kq with
     | zero => exact absurd HA.out (by simp [spec_l12Asks.j1])
     | succ kj8 =>
      have H := HA.out
      clear HA
      simp only [spec_l12Asks.j1] at H
      go_upto_if 25 with (fail)
      replace H := IB H
      rcases H with ⟨c12, H⟩ | ⟨c12, H⟩
      ·subst c12
       replace H := BN H; obtain ⟨⟨t1564, t1565, t1566⟩, A14, H⟩ := H
       replace H := GD H; obtain ⟨c16, H⟩ := H
       have c16b0 : decide (0 ≤ t1564) = true := decide_eq_true c16
       clear c16
       replace H := GD H; obtain ⟨c17, H⟩ := H
       have c17b0 : decide (t1564 < (x5_1.length : Int)) = true := decide_eq_true c17
       clear c17
       replace H := GD H; obtain ⟨c18, H⟩ := H
       have LMc18 := Aside0.mk c18
       clear c18
       have H' := Aside0.mk H
       clear H
       obtain ⟨Xo13, ko13, eo13⟩ := HM.rdR 0 rfl
       subst eo13
       go_wp2_with (first | ((with_reducible refine gC 58 rfl ?_); refine pC (some 31) rfl #[.pointer (some ⟨g, 0, none⟩), .int .i64 (x5_1.length : Int)] rfl Try.func58 (spec_l01Below.calls g A0_0 c0_0 s0_0 t1562 t1563 (x5_1.length : Int) t1564 t1565 t1566 _ _ _ HRs0_0.out HCs0_0.out (HM.focus [0] [1]) A14.out) ?_; rintro e w15 ⟨rfl, hR⟩; refine ⟨_, rfl, ?_⟩; replace HM := nzM hR.unfocus; clear hR; have p1567 : 0 ≤ (t1564 : Int) := of_decide_eq_true AS; have q1567 : (t1564 : Int) < (x5_1.length : Int) := of_decide_eq_true AS; obtain ⟨ad1567, e1567, hx1567_0⟩ := Kd.at_string (HM.CR 0 rfl).2.2 t1564 p1567 q1567; cases e1567; replace p1567 := eq_true p1567; replace q1567 := eq_true q1567) | ((with_reducible refine gN 34 rfl ?_); refine pL 34 Kd.string 9 [rdOf ByteArray.empty x5_1 t1564] [.string (rdOf ByteArray.empty x5_1 t1564)] (Reps.one (show Kd.M Kd.string _ _ _ (rdOf ByteArray.empty x5_1 t1564) [.string (rdOf ByteArray.empty x5_1 t1564)] from rfl) (Reps.none _ _)) HM rfl ?_; clear HM; intro v20 w19 HM; obtain ⟨Xv20, kv20, ev20⟩ := HM.rdR 2 rfl; subst ev20) | ((with_reducible refine gate_builtin (b := .append) (xs := #[.tmp 26, .tmp 34]) rfl ?_); refine pA 0 (.tmp 26) (.tmp 34) 24 9 Kd.string (.slice (some ad1567) x5_1.length ko13) x5_1 [rdOf ByteArray.empty x5_1 t1564] Xv20 ([rdOf ByteArray.empty x5_1 t1564].length) kv20 HM rfl Try.underlying24 info9 rfl (HM.CR 2 rfl).2.2 (by have h_ := LMc18.out; simp only [List.length_singleton]; omega) ?_; clear HM; intro v1569 w21 HM))
       go_roundg kj8
       case measure => have := HK1.out; have := HJ8.out; omega
       case rel => exact ⟨((x5_1 ++ [rdOf ByteArray.empty x5_1 t1564])), (wrap64 (x6_1 - 1)), (t1565), (t1566), RS, H', ⟨by have := HK1.out; have := HJ8.out; omega⟩, (MD HM).pick [0, 1]⟩
      ·subst c12
       replace H := BN H; obtain ⟨⟨t1571, t1572, t1573⟩, A22, H⟩ := H
       replace H := GD H; obtain ⟨c24, H⟩ := H
       have LMc24 := Aside0.mk c24
       clear c24
       have H' := Aside0.mk H
       clear H
       go_wp2_with (first | ((with_reducible refine gC 80 rfl ?_); refine pC (some 38) rfl #[.pointer (some ⟨g, 0, none⟩)] rfl Try.func80 (spec_l10Key.calls g A0_0 c0_0 s0_0 t1562 t1563 t1571 t1572 t1573 _ _ _ HRs0_0.out HCs0_0.out (HM.focus [0] [1]) A22.out) ?_; rintro e w23 ⟨rfl, hR⟩; refine ⟨_, rfl, ?_⟩; replace HM := nzM hR.unfocus; clear hR) | ((with_reducible refine gN 39 rfl ?_); refine pL 39 Kd.string 9 [t1571] [.string t1571] (Reps.one (show Kd.M Kd.string _ _ _ t1571 [.string t1571] from rfl) (Reps.none _ _)) HM rfl ?_; clear HM; intro v26 w25 HM; obtain ⟨Xv26, kv26, ev26⟩ := HM.rdR 2 rfl; subst ev26) | ((with_reducible refine gate_builtin (b := .append) (xs := #[.tmp 36, .tmp 39]) rfl ?_); refine pA 0 (.tmp 36) (.tmp 39) 24 9 Kd.string u5 x5_1 [t1571] Xv26 ([t1571].length) kv26 HM rfl Try.underlying24 info9 rfl (HM.CR 2 rfl).2.2 (by have h_ := LMc24.out; simp only [List.length_singleton]; omega) ?_; clear HM; intro v1575 w27 HM))
       go_roundg kj8
       case measure => have := HK1.out; have := HJ8.out; omega
       case rel => exact ⟨((x5_1 ++ [t1571])), (wrap64 (x6_1 - 1)), (t1572), (t1573), RS, H', ⟨by have := HK1.out; have := HJ8.out; omega⟩, (MD HM).pick [0, 1]⟩
   ·have c6b0 : decide (0 < x6_1) = false := decide_eq_false c6
    clear c6
    (first | rw [c6b0] | (simp only [i64_w, i32_w]; rw [c6b0]) | skip)
    simp only [Option.some.injEq, Prod.mk.injEq] at H
    obtain ⟨rfl, rfl, rfl⟩ := H
    go_wp2
    go_ret
    exact ⟨_, ER, (MD HM).pick [0, 1]⟩
def spec_MakeAsks.f (k : Nat) (l0 : List Int) (a1 : Int) : Option (List ByteArray) := (spec_l01New.f k l0).bind fun bt1577 => ((spec_l12Asks.f k bt1577.1 bt1577.2.1 (wrap64 (bt1577.2.2 + 17)) a1).bind fun bt1581 => (some bt1581.1))
set_option maxHeartbeats 8000000 in
set_option maxRecDepth 100000 in
theorem spec_MakeAsks.calls (k : Nat) (A0 : Option Addr) (c0 : Nat) (l0 : List Int) (a1 : Int) (r : List ByteArray) (w : World) (hr0 : Kd.C (Kd.int .u8) w A0 l0.length l0) (hc0 : l0.length ≤ c0) (h : spec_MakeAsks.f k l0 a1 = some r) :
  Calls Try.prog 28 #[.slice A0 l0.length c0, .int .i64 a1] w fun e w' => ∃ v0_ : Value, e = .returned (v0_) ∧ Mem w [] w' [rowR Kd.string 9 v0_ r] := by
 have HR0 := Aside0.mk hr0
 have HC0 := Aside0.mk hc0
 clear hr0 hc0
 have HM := Mem.nil w
 have H := h
 clear h
 unfold spec_MakeAsks.f at H
 go_enter Try.func28, Try.ntmps28
 replace H := BN H; obtain ⟨⟨t1577, t1578, t1579⟩, A3, H⟩ := H
 replace H := BN H; obtain ⟨⟨t1581, t1584, t1585⟩, A8, H⟩ := H
 obtain rfl := Option.some.inj H
 go_wp2_with (first | ((with_reducible refine gC 56 rfl ?_); refine pC (some 8) rfl #[.slice A0 l0.length c0] rfl Try.func56 (spec_l01New.calls k _ _ l0 t1577 t1578 t1579 _ _ HM.bel HR0.out HC0.out A3.out) ?_; rintro e w4 ⟨gb1580, Xn5, kn5, rfl, hR, hRn5, hCn5⟩; refine ⟨_, rfl, ?_⟩; have HRn5 := Aside0.mk hRn5; have HCn5 := Aside0.mk hCn5; clear hRn5 hCn5; replace HM := HM.call hR; clear hR; obtain ⟨z6_0, z6_1, z6_2, Z6_0, Z6_1, Z6_2⟩ := bk3 (HM.bx 0 rfl)) | ((with_reducible refine gS 16 rfl ?_); refine pS 0 16 2 [.int .i64 (wrap64 (t1579 + 17))] HM rfl rfl ?_; clear HM; intro w7 HM) | ((with_reducible refine gC 57 rfl ?_); refine pC (some 19) rfl #[.pointer (some ⟨gb1580, 0, none⟩), .int .i64 a1] rfl Try.func57 (spec_l12Asks.calls k gb1580 Xn5 kn5 t1577 t1578 (wrap64 (t1579 + 17)) a1 t1581 t1584 t1585 _ _ _ HRn5.out HCn5.out (HM.focus [] [0]) A8.out) ?_; rintro e w9 ⟨v1582, rfl, hR⟩; refine ⟨_, rfl, ?_⟩; replace HM := nzM hR.unfocus; clear hR))
 go_ret
 exact ⟨_, ER, (MD HM).pick [0]⟩
end Go.Proofs.Ytanakbmhclpamaa.G

namespace Go.Proofs.Ytanakbmhclpamaa.G
open Go.RowKit Go.Proofs.YtanakbmhclpamaaW.PrintWords Go.Proofs.YtanakbmhclpamaaW.PrintLast Go.Proofs.YtanakbmhclpamaaW.PrintMore Go.Proofs.Ytanakbmhclpamaa.Sh
attribute [local go_sem] max2_int min2_int max_two min_two max_three min_three max_four min_four
set_option linter.unusedVariables false
set_option linter.unusedSimpArgs false
def laws_less.f (a0 : Bool) : Option (Int) := if a0 = true then (some 1) else (some 0)
set_option maxHeartbeats 8000000 in
set_option maxRecDepth 100000 in
theorem laws_less.calls (a0 : Bool) (r : Int) (w : World) (h : laws_less.f a0 = some r) :
  Calls Try.prog 31 #[.bool a0] w fun e w' => e = .returned (.int .i64 r) ∧ Drawn0 w w' := by
 have H : (if a0 = true then (some 1) else (some 0)) = some r := h
 clear h
 by_cases c2 : a0 = true
 ·subst c2
  replace H := IP H
  obtain rfl := Option.some.inj H
  go_enter Try.func31, Try.ntmps31
  go_wp2
  go_ret
  exact ⟨by first | rfl | (simp; done) | (simp [*]; done), DR⟩
 ·replace c2 := Bool.eq_false_iff.mpr c2
  subst c2
  replace H := IN H
  obtain rfl := Option.some.inj H
  go_enter Try.func31, Try.ntmps31
  go_wp2
  go_ret
  exact ⟨by first | rfl | (simp; done) | (simp [*]; done), DR⟩
end Go.Proofs.Ytanakbmhclpamaa.G

namespace Go.Proofs.Ytanakbmhclpamaa.G
open Go.RowKit Go.Proofs.YtanakbmhclpamaaW.PrintWords Go.Proofs.YtanakbmhclpamaaW.PrintLast Go.Proofs.YtanakbmhclpamaaW.PrintMore Go.Proofs.Ytanakbmhclpamaa.Sh
attribute [local go_sem] max2_int min2_int max_two min_two max_three min_three max_four min_four
set_option linter.unusedVariables false
set_option linter.unusedSimpArgs false
open Go.Proofs.Ytanakbmhclpamaa.Mm
def spec_l12Setup.f (s0_0 : List Int) (s0_1 : Int) (s0_2 : Int) : Option (Int × Int × Int × Int × Int) := (spec_l01Below.f s0_0 s0_1 s0_2 4).bind fun bt1740 => ((spec_l01Below.f s0_0 bt1740.2.1 bt1740.2.2 5).bind fun bt1743 => (if (wrap64 (1 + bt1740.1)) = 4 then ((spec_l01Below.f s0_0 bt1743.2.1 bt1743.2.2 (wrap64 (1 + bt1743.1))).bind fun bt1747 => (some (wrap64 (1 + bt1740.1), wrap64 (1 + bt1743.1), wrap64 (1 + bt1747.1), bt1747.2.1, bt1747.2.2))) else (some (wrap64 (1 + bt1740.1), wrap64 (1 + bt1743.1), 0, bt1743.2.1, bt1743.2.2))))
set_option maxHeartbeats 8000000 in
set_option maxRecDepth 100000 in
theorem spec_l12Setup.calls (g : Nat) (A0_0 : Option Addr) (c0_0 : Nat) (s0_0 : List Int) (s0_1 : Int) (s0_2 : Int) (r1 : Int) (r2 : Int) (r3 : Int) (r4 : Int) (r5 : Int) (w0 w : World) (F : List SP) (hrs0_0 : Kd.C (Kd.int .u8) w0 A0_0 s0_0.length s0_0) (hcs0_0 : s0_0.length ≤ c0_0) (hM : Mem w0 F w [box 81 g [.slice A0_0 s0_0.length c0_0, .int .i64 s0_1, .int .i64 s0_2]]) (h : spec_l12Setup.f s0_0 s0_1 s0_2 = some (r1, r2, r3, r4, r5)) :
  Calls Try.prog 67 #[.pointer (some ⟨g, 0, none⟩)] w fun e w' => e = .returned (.agg #[.int .i64 r1, .int .i64 r2, .int .i64 r3]) ∧ Mem w0 F w' [box 81 g [.slice A0_0 s0_0.length c0_0, .int .i64 r4, .int .i64 r5]] := by
 have hu28 := Try.underlying28
 have HRs0_0 := Aside0.mk hrs0_0
 have HCs0_0 := Aside0.mk hcs0_0
 clear hrs0_0 hcs0_0
 have HM := hM
 clear hM
 have H := h
 clear h
 unfold spec_l12Setup.f at H
 go_enter Try.func67, Try.ntmps67
 replace H := BN H; obtain ⟨⟨t1740, t1741, t1742⟩, A3, H⟩ := H
 replace H := BN H; obtain ⟨⟨t1743, t1744, t1745⟩, A5, H⟩ := H
 go_upto_if 13 with (first | ((with_reducible refine gN 2 rfl ?_); refine pB 2 28 [.int .i64 0, .int .i64 0, .int .i64 0] HM rfl ?_; clear HM; intro gb1739 w2 HM) | ((with_reducible refine gC 58 rfl ?_); refine pC (some 5) rfl #[.pointer (some ⟨g, 0, none⟩), .int .i64 4] rfl Try.func58 (spec_l01Below.calls g A0_0 c0_0 s0_0 s0_1 s0_2 4 t1740 t1741 t1742 _ _ _ HRs0_0.out HCs0_0.out (HM.focus [1] [0]) A3.out) ?_; rintro e w4 ⟨rfl, hR⟩; refine ⟨_, rfl, ?_⟩; replace HM := nzM hR.unfocus; clear hR) | ((with_reducible refine gC 58 rfl ?_); refine pC (some 8) rfl #[.pointer (some ⟨g, 0, none⟩), .int .i64 5] rfl Try.func58 (spec_l01Below.calls g A0_0 c0_0 s0_0 t1741 t1742 5 t1743 t1744 t1745 _ _ _ HRs0_0.out HCs0_0.out (HM.focus [0] [1]) A5.out) ?_; rintro e w6 ⟨rfl, hR⟩; refine ⟨_, rfl, ?_⟩; replace HM := nzM hR.unfocus; clear hR) | ((with_reducible refine gN 3 rfl ?_); refine pB 3 28 [.int .i64 0, .int .i64 0, .int .i64 0] HM rfl ?_; clear HM; intro gb1746 w7 HM) | ((with_reducible refine gS 3 rfl ?_); refine pS 2 3 0 [.int .i64 (wrap64 (1 + t1740)), .int .i64 (wrap64 (1 + t1743)), .int .i64 0] HM rfl rfl ?_; clear HM; intro w8 HM; obtain ⟨z9_0, z9_1, z9_2, Z9_0, Z9_1, Z9_2⟩ := bk3 (HM.bx 2 rfl)))
 replace HM := nzM HM
 replace H := IT H; rcases H with ⟨c10, H⟩ | ⟨c10, H⟩
 ·have c10b0 : ((wrap64 (1 + t1740)) == 4) = true := beq_iff_eq.mpr c10
  have c10b1 : ((wrap64 (1 + t1740)) != 4) = false := bne_eq_false_iff_eq.mpr c10
  clear c10
  (first | rw [c10b0] | (simp only [i64_w, i32_w]; rw [c10b0]) | skip)
  replace H := BN H; obtain ⟨⟨t1747, t1748, t1749⟩, A11, H⟩ := H
  simp only [Option.some.injEq, Prod.mk.injEq] at H
  obtain ⟨rfl, rfl, rfl, rfl, rfl⟩ := H
  go_wp2_with (first | ((with_reducible refine gC 58 rfl ?_); refine pC (some 17) rfl #[.pointer (some ⟨g, 0, none⟩), .int .i64 (wrap64 (1 + t1743))] rfl Try.func58 (spec_l01Below.calls g A0_0 c0_0 s0_0 t1744 t1745 (wrap64 (1 + t1743)) t1747 t1748 t1749 _ _ _ HRs0_0.out HCs0_0.out (HM.focus [0, 2] [1]) A11.out) ?_; rintro e w12 ⟨rfl, hR⟩; refine ⟨_, rfl, ?_⟩; replace HM := nzM hR.unfocus; clear hR) | ((with_reducible refine gS 19 rfl ?_); refine pS 1 19 2 [.int .i64 (wrap64 (1 + t1747))] HM rfl rfl ?_; clear HM; intro w13 HM; obtain ⟨z14_0, z14_1, z14_2, Z14_0, Z14_1, Z14_2⟩ := bk3 (HM.bx 1 rfl)) | ((with_reducible refine gS 2 rfl ?_); refine pS 0 2 0 [.int .i64 (wrap64 (1 + t1740)), .int .i64 (wrap64 (1 + t1743)), .int .i64 (wrap64 (1 + t1747))] HM rfl rfl ?_; clear HM; intro w15 HM))
  refine bodyPost_ret (results_cell_row rfl _ _ gb1739 28 #[.int .i64 (wrap64 (1 + t1740)), .int .i64 (wrap64 (1 + t1743)), .int .i64 (wrap64 (1 + t1747))] (0, 0) _ rfl (HM.bx 0 rfl) Try.underlying28 rfl (by kernel_rfl)) rfl ?_
  exact ⟨ER, (MD HM).pick [2]⟩
 ·have c10b0 : ((wrap64 (1 + t1740)) == 4) = false := beq_eq_false_iff_ne.mpr c10
  have c10b1 : ((wrap64 (1 + t1740)) != 4) = true := bne_iff_ne.mpr c10
  (first | rw [c10b0] | (simp only [i64_w, i32_w]; rw [c10b0]) | skip)
  simp only [Option.some.injEq, Prod.mk.injEq] at H
  obtain ⟨rfl, rfl, rfl, rfl, rfl⟩ := H
  go_wp2_with (first | ((with_reducible refine gS 2 rfl ?_); refine pS 0 2 0 [.int .i64 (wrap64 (1 + t1740)), .int .i64 (wrap64 (1 + t1743)), .int .i64 0] HM rfl rfl ?_; clear HM; intro w16 HM))
  refine bodyPost_ret (results_cell_row rfl _ _ gb1739 28 #[.int .i64 (wrap64 (1 + t1740)), .int .i64 (wrap64 (1 + t1743)), .int .i64 0] (0, 0) _ rfl (HM.bx 0 rfl) Try.underlying28 rfl (by kernel_rfl)) rfl ?_
  exact ⟨ER, (MD HM).pick [1]⟩
def spec_MakeSetup.f (k : Nat) (l0 : List Int) : Option (Int × Int × Int) := (spec_l01New.f k l0).bind fun bt1751 => ((spec_l12Setup.f bt1751.1 bt1751.2.1 (wrap64 (bt1751.2.2 + 23))).bind fun bt1755 => (some (bt1755.1, bt1755.2.1, bt1755.2.2.1)))
set_option maxHeartbeats 8000000 in
set_option maxRecDepth 100000 in
theorem spec_MakeSetup.calls (k : Nat) (A0 : Option Addr) (c0 : Nat) (l0 : List Int) (r1 : Int) (r2 : Int) (r3 : Int) (w : World) (hr0 : Kd.C (Kd.int .u8) w A0 l0.length l0) (hc0 : l0.length ≤ c0) (h : spec_MakeSetup.f k l0 = some (r1, r2, r3)) :
  Calls Try.prog 38 #[.slice A0 l0.length c0] w fun e w' => e = .returned (.agg #[.int .i64 r1, .int .i64 r2, .int .i64 r3]) ∧ Mem w [] w' [] := by
 have hu28 := Try.underlying28
 have HR0 := Aside0.mk hr0
 have HC0 := Aside0.mk hc0
 clear hr0 hc0
 have HM := Mem.nil w
 have H := h
 clear h
 unfold spec_MakeSetup.f at H
 go_enter Try.func38, Try.ntmps38
 replace H := BN H; obtain ⟨⟨t1751, t1752, t1753⟩, A3, H⟩ := H
 replace H := BN H; obtain ⟨⟨t1755, t1756, t1757, t1758, t1759⟩, A8, H⟩ := H
 simp only [Option.some.injEq, Prod.mk.injEq] at H
 obtain ⟨rfl, rfl, rfl⟩ := H
 go_wp2_with (first | ((with_reducible refine gN 2 rfl ?_); refine pB 2 28 [.int .i64 0, .int .i64 0, .int .i64 0] HM rfl ?_; clear HM; intro gb1750 w2 HM) | ((with_reducible refine gC 56 rfl ?_); refine pC (some 6) rfl #[.slice A0 l0.length c0] rfl Try.func56 (spec_l01New.calls k _ _ l0 t1751 t1752 t1753 _ _ HM.bel HR0.out HC0.out A3.out) ?_; rintro e w4 ⟨gb1754, Xn5, kn5, rfl, hR, hRn5, hCn5⟩; refine ⟨_, rfl, ?_⟩; have HRn5 := Aside0.mk hRn5; have HCn5 := Aside0.mk hCn5; clear hRn5 hCn5; replace HM := HM.call hR; clear hR; obtain ⟨z6_0, z6_1, z6_2, Z6_0, Z6_1, Z6_2⟩ := bk3 (HM.bx 1 rfl)) | ((with_reducible refine gS 14 rfl ?_); refine pS 1 14 2 [.int .i64 (wrap64 (t1753 + 23))] HM rfl rfl ?_; clear HM; intro w7 HM) | ((with_reducible refine gC 67 rfl ?_); refine pC (some 16) rfl #[.pointer (some ⟨gb1754, 0, none⟩)] rfl Try.func67 (spec_l12Setup.calls gb1754 Xn5 kn5 t1751 t1752 (wrap64 (t1753 + 23)) t1755 t1756 t1757 t1758 t1759 _ _ _ HRn5.out HCn5.out (HM.focus [0] [1]) A8.out) ?_; rintro e w9 ⟨rfl, hR⟩; refine ⟨_, rfl, ?_⟩; replace HM := nzM hR.unfocus; clear hR) | ((with_reducible refine gN 4 rfl ?_); refine pB 4 28 [.int .i64 0, .int .i64 0, .int .i64 0] HM rfl ?_; clear HM; intro gb1760 w10 HM) | ((with_reducible refine gS 4 rfl ?_); refine pS 2 4 0 [.int .i64 t1755, .int .i64 t1756, .int .i64 t1757] HM rfl rfl ?_; clear HM; intro w11 HM; obtain ⟨z12_0, z12_1, z12_2, Z12_0, Z12_1, Z12_2⟩ := bk3 (HM.bx 2 rfl)) | ((with_reducible refine gS 2 rfl ?_); refine pS 0 2 0 [.int .i64 t1755, .int .i64 t1756, .int .i64 t1757] HM rfl rfl ?_; clear HM; intro w13 HM))
 refine bodyPost_ret (results_cell_row rfl _ _ gb1750 28 #[.int .i64 t1755, .int .i64 t1756, .int .i64 t1757] (0, 0) _ rfl (HM.bx 0 rfl) Try.underlying28 rfl (by kernel_rfl)) rfl ?_
 exact ⟨ER, (MD HM).pick []⟩
def impl_Rate.f (a0_0 : Int) (a0_1 : Int) (a0_2 : Int) (a0_3 : Int) : Option (Int) := (impl_within.f a0_0 1 4294967295).bind fun t1762 => (if t1762 = true then ((impl_within.f a0_1 0 a0_0).bind fun t1763 => (if t1763 = true then (if a0_0 = 0 then (none) else (some (wrap64 (Int.tdiv (wrap64 (1000 * a0_1)) a0_0)))) else (some 0))) else (some 0))
set_option maxHeartbeats 8000000 in
set_option maxRecDepth 100000 in
theorem impl_Rate.calls (a0_0 : Int) (a0_1 : Int) (a0_2 : Int) (a0_3 : Int) (r : Int) (w : World)  (h : impl_Rate.f a0_0 a0_1 a0_2 a0_3 = some r) :
  Calls Try.prog 40 #[.agg #[.int .i64 a0_0, .int .i64 a0_1, .int .i64 a0_2, .int .i64 a0_3]] w fun e w' => e = .returned (.int .i64 r) ∧ Mem w [] w' [] := by
 have hu36 := Try.underlying36
 have HM := Mem.nil w
 have H := h
 clear h
 unfold impl_Rate.f at H
 go_enter Try.func40, Try.ntmps40
 replace H := BN H; obtain ⟨t1762, A4, H⟩ := H
 replace H := IB H
 rcases H with ⟨c6, H⟩ | ⟨c6, H⟩
 ·subst c6
  replace H := BN H; obtain ⟨t1763, A8, H⟩ := H
  go_upto_if 14 with (first | ((with_reducible refine gN 1 rfl ?_); refine pB 1 36 [.int .i64 a0_0, .int .i64 a0_1, .int .i64 a0_2, .int .i64 a0_3] HM rfl ?_; clear HM; intro gb1761 w2 HM; obtain ⟨z3_0, z3_1, z3_2, z3_3, Z3_0, Z3_1, Z3_2, Z3_3⟩ := bk4 (HM.bx 0 rfl)) | ((with_reducible refine gC 64 rfl ?_); refine pC (some 5) rfl #[.int .i64 a0_0, .int .i64 1, .int .i64 4294967295] rfl Try.func64 (impl_within.calls a0_0 1 4294967295 true _ A4.out) ?_; rintro e w5 ⟨rfl, hd⟩; refine ⟨_, rfl, ?_⟩; replace HM := HM.drawn hd; clear hd; obtain ⟨z7_0, z7_1, z7_2, z7_3, Z7_0, Z7_1, Z7_2, Z7_3⟩ := bk4 (HM.bx 0 rfl)) | ((with_reducible refine gC 64 rfl ?_); refine pC (some 12) rfl #[.int .i64 a0_1, .int .i64 0, .int .i64 a0_0] rfl Try.func64 (impl_within.calls a0_1 0 a0_0 t1763 _ A8.out) ?_; rintro e w9 ⟨rfl, hd⟩; refine ⟨_, rfl, ?_⟩; replace HM := HM.drawn hd; clear hd))
  replace H := IB H
  rcases H with ⟨c10, H⟩ | ⟨c10, H⟩
  ·subst c10
   replace H := GN H; obtain ⟨c12, H⟩ := H
   have c12b0 : (a0_0 == 0) = false := beq_eq_false_iff_ne.mpr c12
   have c12b1 : (a0_0 != 0) = true := bne_iff_ne.mpr c12
   obtain rfl := Option.some.inj H
   obtain ⟨z11_0, z11_1, z11_2, z11_3, Z11_0, Z11_1, Z11_2, Z11_3⟩ := bk4 (HM.bx 0 rfl)
   go_wp2
   go_ret
   exact ⟨ER, (MD HM).pick []⟩
  ·subst c10
   obtain rfl := Option.some.inj H
   go_wp2
   go_ret
   exact ⟨ER, (MD HM).pick []⟩
 ·subst c6
  obtain rfl := Option.some.inj H
  go_wp2_with (first | ((with_reducible refine gN 1 rfl ?_); refine pB 1 36 [.int .i64 a0_0, .int .i64 a0_1, .int .i64 a0_2, .int .i64 a0_3] HM rfl ?_; clear HM; intro gb1761 w2 HM; obtain ⟨z3_0, z3_1, z3_2, z3_3, Z3_0, Z3_1, Z3_2, Z3_3⟩ := bk4 (HM.bx 0 rfl)) | ((with_reducible refine gC 64 rfl ?_); refine pC (some 5) rfl #[.int .i64 a0_0, .int .i64 1, .int .i64 4294967295] rfl Try.func64 (impl_within.calls a0_0 1 4294967295 false _ A4.out) ?_; rintro e w5 ⟨rfl, hd⟩; refine ⟨_, rfl, ?_⟩; replace HM := HM.drawn hd; clear hd))
  go_ret
  exact ⟨ER, (MD HM).pick []⟩
def spec_Rate.f (a0_0 : Int) (a0_1 : Int) (a0_2 : Int) (a0_3 : Int) : Option (Int) := if a0_0 < 1 then (some 0) else (if a0_0 > 4294967295 then (some 0) else (if a0_1 < 0 then (some 0) else (if a0_1 > a0_0 then (some 0) else (if a0_0 = 0 then (none) else (some (wrap64 (Int.tdiv (wrap64 (1000 * a0_1)) a0_0)))))))
set_option maxHeartbeats 8000000 in
set_option maxRecDepth 100000 in
theorem spec_Rate.calls (a0_0 : Int) (a0_1 : Int) (a0_2 : Int) (a0_3 : Int) (r : Int) (w : World)  (h : spec_Rate.f a0_0 a0_1 a0_2 a0_3 = some r) :
  Calls Try.prog 41 #[.agg #[.int .i64 a0_0, .int .i64 a0_1, .int .i64 a0_2, .int .i64 a0_3]] w fun e w' => e = .returned (.int .i64 r) ∧ Mem w [] w' [] := by
 have hu36 := Try.underlying36
 have HM := Mem.nil w
 have H := h
 clear h
 unfold spec_Rate.f at H
 go_enter Try.func41, Try.ntmps41
 replace H := IT H; rcases H with ⟨c4, H⟩ | ⟨c4, H⟩
 ·have c4b0 : decide (a0_0 < 1) = true := decide_eq_true c4
  clear c4
  obtain rfl := Option.some.inj H
  go_wp2_with (first | ((with_reducible refine gN 1 rfl ?_); refine pB 1 36 [.int .i64 a0_0, .int .i64 a0_1, .int .i64 a0_2, .int .i64 a0_3] HM rfl ?_; clear HM; intro gb1764 w2 HM; obtain ⟨z3_0, z3_1, z3_2, z3_3, Z3_0, Z3_1, Z3_2, Z3_3⟩ := bk4 (HM.bx 0 rfl)))
  go_ret
  exact ⟨ER, (MD HM).pick []⟩
 ·have c4b0 : decide (a0_0 < 1) = false := decide_eq_false c4
  clear c4
  replace H := IT H; rcases H with ⟨c5, H⟩ | ⟨c5, H⟩
  ·have c5b0 : decide (4294967295 < a0_0) = true := decide_eq_true c5
   clear c5
   obtain rfl := Option.some.inj H
   go_wp2_with (first | ((with_reducible refine gN 1 rfl ?_); refine pB 1 36 [.int .i64 a0_0, .int .i64 a0_1, .int .i64 a0_2, .int .i64 a0_3] HM rfl ?_; clear HM; intro gb1764 w2 HM; obtain ⟨z3_0, z3_1, z3_2, z3_3, Z3_0, Z3_1, Z3_2, Z3_3⟩ := bk4 (HM.bx 0 rfl)))
   go_ret
   exact ⟨ER, (MD HM).pick []⟩
  ·have c5b0 : decide (4294967295 < a0_0) = false := decide_eq_false c5
   clear c5
   replace H := IT H; rcases H with ⟨c6, H⟩ | ⟨c6, H⟩
   ·have c6b0 : decide (a0_1 < 0) = true := decide_eq_true c6
    clear c6
    obtain rfl := Option.some.inj H
    go_wp2_with (first | ((with_reducible refine gN 1 rfl ?_); refine pB 1 36 [.int .i64 a0_0, .int .i64 a0_1, .int .i64 a0_2, .int .i64 a0_3] HM rfl ?_; clear HM; intro gb1764 w2 HM; obtain ⟨z3_0, z3_1, z3_2, z3_3, Z3_0, Z3_1, Z3_2, Z3_3⟩ := bk4 (HM.bx 0 rfl)))
    go_ret
    exact ⟨ER, (MD HM).pick []⟩
   ·have c6b0 : decide (a0_1 < 0) = false := decide_eq_false c6
    clear c6
    go_upto_if 22 with (first | ((with_reducible refine gN 1 rfl ?_); refine pB 1 36 [.int .i64 a0_0, .int .i64 a0_1, .int .i64 a0_2, .int .i64 a0_3] HM rfl ?_; clear HM; intro gb1764 w2 HM; obtain ⟨z3_0, z3_1, z3_2, z3_3, Z3_0, Z3_1, Z3_2, Z3_3⟩ := bk4 (HM.bx 0 rfl)))
    replace H := IT H; rcases H with ⟨c7, H⟩ | ⟨c7, H⟩
    ·have c7b0 : decide (a0_0 < a0_1) = true := decide_eq_true c7
     clear c7
     (first | rw [c7b0] | (simp only [i64_w, i32_w]; rw [c7b0]) | skip)
     obtain rfl := Option.some.inj H
     go_wp2
     go_ret
     exact ⟨ER, (MD HM).pick []⟩
    ·have c7b0 : decide (a0_0 < a0_1) = false := decide_eq_false c7
     clear c7
     (first | rw [c7b0] | (simp only [i64_w, i32_w]; rw [c7b0]) | skip)
     replace H := GN H; obtain ⟨c8, H⟩ := H
     have c8b0 : (a0_0 == 0) = false := beq_eq_false_iff_ne.mpr c8
     have c8b1 : (a0_0 != 0) = true := bne_iff_ne.mpr c8
     obtain rfl := Option.some.inj H
     go_wp2
     go_ret
     exact ⟨ER, (MD HM).pick []⟩
mutual
def laws_FnCount.j0 : Nat → List ByteArray → List ByteArray → Bool → Int → Int → Int → Int → Int → Int → Int → Option (Bool)
 | 0, _, _, _, _, _, _, _, _, _, _ => none
 | k + 1, x3, x6, x69, x1772000, x1772001, x1772002, x1777000, x1777001, x1777002, x1777003 => if x69 = true then (none) else ((some (([] : List ByteArray) : List ByteArray)).bind fun y1782 => (if y1782.length + x3.length < 8796093022208 then ((some (y1782 ++ x3 : List ByteArray)).bind fun y1785 => (if y1785.length < 8796093022208 then ((impl_HitsOf.f k x1772000 x1772001 x1772002 (y1785 ++ [(⟨#[110, 101, 119]⟩ : ByteArray)])).bind fun t1791 => (if (t1791.length : Int) = (wrap64 ((x3.length : Int) + 1)) then (if 0 ≤ (x3.length : Int) then (if (x3.length : Int) < (t1791.length : Int) then (laws_FnCount.j1 k x3 x6 (rdOf false t1791 (x3.length : Int)) x1772000 x1772001 x1772002 x1777000 x1777001 x1777002 x1777003) else (none)) else (none)) else (laws_FnCount.j1 k x3 x6 true x1772000 x1772001 x1772002 x1777000 x1777001 x1777002 x1777003))) else (none))) else (none)))
def laws_FnCount.j1 : Nat → List ByteArray → List ByteArray → Bool → Int → Int → Int → Int → Int → Int → Int → Option (Bool)
 | 0, _, _, _, _, _, _, _, _, _, _ => none
 | k + 1, x3, x6, x89, x1772000, x1772001, x1772002, x1777000, x1777001, x1777002, x1777003 => if x89 = true then (none) else (laws_FnCount.l0 k x3 x6 (x6.length : Int) 0 x1772000 x1772001 x1772002 x1777000 x1777001 x1777002 x1777003)
def laws_FnCount.l0 : Nat → List ByteArray → List ByteArray → Int → Int → Int → Int → Int → Int → Int → Int → Int → Option (Bool)
 | 0, _, _, _, _, _, _, _, _, _, _, _ => none
 | k + 1, x3, x90, x91, x92, x1772000, x1772001, x1772002, x1777000, x1777001, x1777002, x1777003 => if x92 < x91 then (if 0 ≤ x92 then (if x92 < (x90.length : Int) then ((some (([] : List ByteArray) : List ByteArray)).bind fun y1796 => (if y1796.length + x3.length < 8796093022208 then ((some (y1796 ++ x3 : List ByteArray)).bind fun y1799 => (if y1799.length < 8796093022208 then ((impl_HitsOf.f k x1772000 x1772001 x1772002 (y1799 ++ [rdOf ByteArray.empty x90 x92])).bind fun t1805 => (if (t1805.length : Int) = (wrap64 ((x3.length : Int) + 1)) then (if 0 ≤ (x3.length : Int) then (if (x3.length : Int) < (t1805.length : Int) then (if (rdOf false t1805 (x3.length : Int) = true) then (laws_FnCount.l0 k x3 x90 x91 (wrap64 (x92 + 1)) x1772000 x1772001 x1772002 x1777000 x1777001 x1777002 x1777003) else (none)) else (none)) else (none)) else (none))) else (none))) else (none))) else (none)) else (none)) else ((impl_Rate.f x1777000 x1777001 x1777002 x1777003).bind fun t1809 => ((spec_Rate.f x1777000 x1777001 x1777002 x1777003).bind fun t1810 => (some (t1809 == t1810))))
end
def laws_FnCount.f (k : Nat) (l0 : List Int) : Option (Bool) := if (l0.length : Int) > 1048576 then (some true) else ((spec_MakeAsks.f k l0 24).bind fun t1765 => ((spec_MakeSetup.f k l0).bind fun bt1768 => ((impl_CountOf.f k bt1768.1 bt1768.2.1 bt1768.2.2 t1765).bind fun bt1772 => ((impl_Holds.f k bt1768.1 bt1768.2.1 bt1768.2.2 t1765).bind fun t1777 => ((impl_SetupOk.f k bt1768.1 bt1768.2.1 bt1768.2.2).bind fun t1780 => (if t1780 = true then (if bt1772.1 = (t1765.length : Int) then (if (wrap64 (bt1772.2.1 + bt1772.2.2.1)) = bt1772.1 then (if bt1772.2.2.2 = (wrap64 (bt1772.2.2.1 - (t1777.length : Int))) then (if (t1777.length : Int) > bt1768.2.1 then (laws_FnCount.j0 k t1765 t1777 true bt1768.1 bt1768.2.1 bt1768.2.2 bt1772.1 bt1772.2.1 bt1772.2.2.1 bt1772.2.2.2) else ((laws_less.f (decide ((t1765.length : Int) > 0))).bind fun t1781 => (laws_FnCount.j0 k t1765 t1777 (decide ((t1777.length : Int) < t1781)) bt1768.1 bt1768.2.1 bt1768.2.2 bt1772.1 bt1772.2.1 bt1772.2.2.1 bt1772.2.2.2))) else (laws_FnCount.j0 k t1765 t1777 true bt1768.1 bt1768.2.1 bt1768.2.2 bt1772.1 bt1772.2.1 bt1772.2.2.1 bt1772.2.2.2)) else (laws_FnCount.j0 k t1765 t1777 true bt1768.1 bt1768.2.1 bt1768.2.2 bt1772.1 bt1772.2.1 bt1772.2.2.1 bt1772.2.2.2)) else (laws_FnCount.j0 k t1765 t1777 true bt1768.1 bt1768.2.1 bt1768.2.2 bt1772.1 bt1772.2.1 bt1772.2.2.1 bt1772.2.2.2)) else (laws_FnCount.j0 k t1765 t1777 true bt1768.1 bt1768.2.1 bt1768.2.2 bt1772.1 bt1772.2.1 bt1772.2.2.1 bt1772.2.2.2)))))))
def laws_FnCount.T9 : Bool × List (List Nat × List Nat) := (true, [([], []), ([], []), ([], []), ([1, 2], [1, 2]), ([], []), ([3, 4, 3], [3, 4]), ([0, 5, 5], [0, 5]), ([6, 6, 0, 1, 2, 3, 4, 5, 6], [6])])
def laws_FnCount.B9 : List Nat := [0, 0, 0, 6, 0, 30, 63, 127]
theorem laws_FnCount.tab9 : rtab .any (opsOf Try.f8 9) = laws_FnCount.T9 := by kernel_rfl
theorem laws_FnCount.bits9 : waitsOk laws_FnCount.T9.2 laws_FnCount.B9 = true := by kernel_rfl
def laws_FnCount.T15 : Bool × List (List Nat × List Nat) := (true, [([], []), ([], []), ([], []), ([1, 2], [1, 2]), ([], []), ([4], [4]), ([3, 5, 3], [3, 5]), ([0, 6, 6], [0, 6]), ([7, 7, 0, 1, 2, 3, 4, 5, 6, 7], [7])])
def laws_FnCount.B15 : List Nat := [0, 0, 0, 6, 0, 16, 62, 127, 255]
theorem laws_FnCount.tab15 : rtab .any (opsOf Try.f8 15) = laws_FnCount.T15 := by kernel_rfl
theorem laws_FnCount.bits15 : waitsOk laws_FnCount.T15.2 laws_FnCount.B15 = true := by kernel_rfl
def laws_FnCount.T19 : Bool × List (List Nat × List Nat) := (true, [([], []), ([0], [0]), ([], []), ([2, 1], [2]), ([1, 3], [1, 3]), ([4, 3, 0, 1, 2, 3, 4], [4])])
def laws_FnCount.B19 : List Nat := [0, 1, 0, 7, 15, 31]
theorem laws_FnCount.tab19 : rtab .any (opsOf Try.f8 19) = laws_FnCount.T19 := by kernel_rfl
theorem laws_FnCount.bits19 : waitsOk laws_FnCount.T19.2 laws_FnCount.B19 = true := by kernel_rfl
set_option maxHeartbeats 8000000 in
set_option maxRecDepth 100000 in
theorem laws_FnCount.calls (k : Nat) (A0 : Option Addr) (c0 : Nat) (l0 : List Int) (r : Bool) (w : World) (hr0 : Kd.C (Kd.int .u8) w A0 l0.length l0) (hc0 : l0.length ≤ c0) (h : laws_FnCount.f k l0 = some r) :
  Calls Try.prog 8 #[.slice A0 l0.length c0] w fun e w' => e = .returned (.bool r) ∧ Below w.heap.size w w' := by
 have hu28 := Try.underlying28
 have hu36 := Try.underlying36
 have HR0 := Aside0.mk hr0
 have HC0 := Aside0.mk hc0
 clear hr0 hc0
 have HM := Mem.nil w
 have H := h
 clear h
 unfold laws_FnCount.f at H
 go_enter Try.func8, Try.ntmps8
 go_upto_if 13 with (fail)
 replace H := IT H; rcases H with ⟨c2, H⟩ | ⟨c2, H⟩
 ·replace c2 : (l0.length : Int) > 1048576 := c2
  have c2b0 : decide (1048576 < (l0.length : Int)) = true := decide_eq_true c2
  have c2b1 : decide (1048576 < l0.length) = true := decide_eq_true (by omega)
  have c2b9 : decide (1048576 < l0.length) = true := decide_eq_true (by omega)
  clear c2
  (first | rw [c2b0] | rw [c2b9] | (simp only [i64_w, i32_w]; rw [c2b0]) | skip)
  obtain rfl := Option.some.inj H
  go_wp2
  go_ret
  exact ⟨ER, HM.bel⟩
 ·replace c2 : ¬ ((l0.length : Int) > 1048576) := c2
  have c2b0 : decide (1048576 < (l0.length : Int)) = false := decide_eq_false c2
  have c2b1 : decide (1048576 < l0.length) = false := decide_eq_false (by omega)
  have c2b9 : decide (1048576 < l0.length) = false := decide_eq_false (by omega)
  clear c2
  (first | rw [c2b0] | rw [c2b9] | (simp only [i64_w, i32_w]; rw [c2b0]) | skip)
  replace H := BN H; obtain ⟨t1765, A3, H⟩ := H
  replace H := BN H; obtain ⟨⟨t1768, t1769, t1770⟩, A5, H⟩ := H
  replace H := BN H; obtain ⟨⟨t1772, t1773, t1774, t1775⟩, A10, H⟩ := H
  replace H := BN H; obtain ⟨t1777, A16, H⟩ := H
  have HC18 := Aside0.mk H
  clear H
  go_upto_region 7 with (first | ((with_reducible refine gC 28 rfl ?_); refine pC (some 15) rfl #[.slice A0 l0.length c0, .int .i64 24] rfl Try.func28 (spec_MakeAsks.calls k _ _ l0 24 t1765 _ (HM.came HR0.out) HC0.out A3.out) ?_; rintro e w4 ⟨v1766, rfl, hR⟩; refine ⟨_, rfl, ?_⟩; replace HM := HM.call hR; clear hR) | ((with_reducible refine gC 38 rfl ?_); refine pC (some 17) rfl #[.slice A0 l0.length c0] rfl Try.func38 (spec_MakeSetup.calls k _ _ l0 t1768 t1769 t1770 _ (HM.came HR0.out) HC0.out A5.out) ?_; rintro e w6 ⟨rfl, hR⟩; refine ⟨_, rfl, ?_⟩; replace HM := HM.call hR; clear hR) | ((with_reducible refine gN 4 rfl ?_); refine pB 4 28 [.int .i64 0, .int .i64 0, .int .i64 0] HM rfl ?_; clear HM; intro gb1771 w7 HM) | ((with_reducible refine gS 4 rfl ?_); refine pS 1 4 0 [.int .i64 t1768, .int .i64 t1769, .int .i64 t1770] HM rfl rfl ?_; clear HM; intro w8 HM; obtain ⟨z9_0, z9_1, z9_2, Z9_0, Z9_1, Z9_2⟩ := bk3 (HM.bx 1 rfl); obtain ⟨Xo12, ko12, eo12⟩ := HM.rdR 0 rfl; subst eo12) | ((with_reducible refine gC 22 rfl ?_); refine pC (some 20) rfl #[.agg #[.int .i64 t1768, .int .i64 t1769, .int .i64 t1770], .slice Xo12 t1765.length ko12] rfl Try.func22 (impl_CountOf.calls k t1768 t1769 t1770 _ _ t1765 t1772 t1773 t1774 t1775 _ (HM.CR 0 rfl).2.2 (HM.CR 0 rfl).2.1 A10.out) ?_; rintro e w11 ⟨rfl, hR⟩; refine ⟨_, rfl, ?_⟩; replace HM := HM.call hR; clear hR) | ((with_reducible refine gN 5 rfl ?_); refine pB 5 36 [.int .i64 0, .int .i64 0, .int .i64 0, .int .i64 0] HM rfl ?_; clear HM; intro gb1776 w13 HM) | ((with_reducible refine gS 5 rfl ?_); refine pS 2 5 0 [.int .i64 t1772, .int .i64 t1773, .int .i64 t1774, .int .i64 t1775] HM rfl rfl ?_; clear HM; intro w14 HM; obtain ⟨z15_0, z15_1, z15_2, Z15_0, Z15_1, Z15_2⟩ := bk3 (HM.bx 1 rfl)) | ((with_reducible refine gC 25 rfl ?_); refine pC (some 23) rfl #[.agg #[.int .i64 t1768, .int .i64 t1769, .int .i64 t1770], .slice Xo12 t1765.length ko12] rfl Try.func25 (impl_Holds.calls k t1768 t1769 t1770 _ _ t1765 t1777 _ (HM.CR 0 rfl).2.2 (HM.CR 0 rfl).2.1 A16.out) ?_; rintro e w17 ⟨v1778, rfl, hR⟩; refine ⟨_, rfl, ?_⟩; replace HM := HM.call hR; clear hR))
  replace HM := nzM HM
  go_cut [69] (fun v69 wc => ∃ (kq : Nat) (x69_17 : Bool), v69 = .bool x69_17 ∧ Aside0 (laws_FnCount.j0 kq t1765 t1777 x69_17 t1768 t1769 t1770 t1772 t1773 t1774 t1775 = some r) ∧ Aside0 (kq ≤ k) ∧ Mem w [] wc [rowR Kd.string 9 (.slice Xo12 t1765.length ko12) t1765, rowR Kd.string 9 v1778 t1777, box 28 gb1771 [.int .i64 t1768, .int .i64 t1769, .int .i64 t1770], box 36 gb1776 [.int .i64 t1772, .int .i64 t1773, .int .i64 t1774, .int .i64 t1775]])
  case first =>
   have H := HC18.out
   clear HC18
   replace H := BN H; obtain ⟨t1780, A20, H⟩ := H
   replace H := IB H
   rcases H with ⟨c22, H⟩ | ⟨c22, H⟩
   ·subst c22
    replace H := IT H; rcases H with ⟨c24, H⟩ | ⟨c24, H⟩
    ·have c24b0 : (t1772 == (t1765.length : Int)) = true := beq_iff_eq.mpr c24
     have c24b1 : (t1772 != (t1765.length : Int)) = false := bne_eq_false_iff_eq.mpr c24
     clear c24
     replace H := IT H; rcases H with ⟨c25, H⟩ | ⟨c25, H⟩
     ·have c25b0 : ((wrap64 (t1773 + t1774)) == t1772) = true := beq_iff_eq.mpr c25
      have c25b1 : ((wrap64 (t1773 + t1774)) != t1772) = false := bne_eq_false_iff_eq.mpr c25
      clear c25
      replace H := IT H; rcases H with ⟨c27, H⟩ | ⟨c27, H⟩
      ·have c27b0 : (t1775 == (wrap64 (t1774 - (t1777.length : Int)))) = true := beq_iff_eq.mpr c27
       have c27b1 : (t1775 != (wrap64 (t1774 - (t1777.length : Int)))) = false := bne_eq_false_iff_eq.mpr c27
       clear c27
       replace H := IT H; rcases H with ⟨c29, H⟩ | ⟨c29, H⟩
       ·have c29b0 : decide (t1769 < (t1777.length : Int)) = true := decide_eq_true c29
        clear c29
        have H' := Aside0.mk H
        clear H
        obtain ⟨z19_0, z19_1, z19_2, Z19_0, Z19_1, Z19_2⟩ := bk3 (HM.bx 1 rfl)
        go_wp2_with (first | ((with_reducible refine gC 39 rfl ?_); refine pC (some 25) rfl #[.agg #[.int .i64 t1768, .int .i64 t1769, .int .i64 t1770]] rfl Try.func39 (impl_SetupOk.calls k t1768 t1769 t1770 true _ A20.out) ?_; rintro e w21 ⟨rfl, hR⟩; refine ⟨_, rfl, ?_⟩; replace HM := HM.call hR; clear hR; obtain ⟨z23_0, z23_1, z23_2, z23_3, Z23_0, Z23_1, Z23_2, Z23_3⟩ := bk4 (HM.bx 2 rfl); obtain ⟨Xo26, ko26, eo26⟩ := HM.rdR 3 rfl; subst eo26; obtain ⟨z28_0, z28_1, z28_2, Z28_0, Z28_1, Z28_2⟩ := bk3 (HM.bx 1 rfl)))
        go_meet
        case rel => exact ⟨_, (true), RS, H', ⟨by first | omega | exact Nat.le_refl _⟩, (MD HM).pick [0, 3, 1, 2]⟩
       ·have c29b0 : decide (t1769 < (t1777.length : Int)) = false := decide_eq_false c29
        clear c29
        replace H := BN H; obtain ⟨t1781, A30, H⟩ := H
        have H' := Aside0.mk H
        clear H
        obtain ⟨z19_0, z19_1, z19_2, Z19_0, Z19_1, Z19_2⟩ := bk3 (HM.bx 1 rfl)
        go_wp2_with (first | ((with_reducible refine gC 39 rfl ?_); refine pC (some 25) rfl #[.agg #[.int .i64 t1768, .int .i64 t1769, .int .i64 t1770]] rfl Try.func39 (impl_SetupOk.calls k t1768 t1769 t1770 true _ A20.out) ?_; rintro e w21 ⟨rfl, hR⟩; refine ⟨_, rfl, ?_⟩; replace HM := HM.call hR; clear hR; obtain ⟨z23_0, z23_1, z23_2, z23_3, Z23_0, Z23_1, Z23_2, Z23_3⟩ := bk4 (HM.bx 2 rfl); obtain ⟨Xo26, ko26, eo26⟩ := HM.rdR 3 rfl; subst eo26; obtain ⟨z28_0, z28_1, z28_2, Z28_0, Z28_1, Z28_2⟩ := bk3 (HM.bx 1 rfl)) | ((with_reducible refine gC 31 rfl ?_); refine pC (some 67) rfl #[.bool (decide ((t1765.length : Int) > 0))] rfl Try.func31 (laws_less.calls (decide ((t1765.length : Int) > 0)) t1781 _ A30.out) ?_ (hargs := by (try simp only [List.map_toArray, List.map_cons, List.map_nil]); first | done | rfl | (show (#[.bool (decide (0 < t1765.length))] : Array Value) = _; simp)); rintro e w31 ⟨rfl, hd⟩; refine ⟨_, rfl, ?_⟩; replace HM := HM.drawn hd; clear hd))
        go_meet
        case rel => exact ⟨_, (decide ((t1777.length : Int) < t1781)), RS, H', ⟨by first | omega | exact Nat.le_refl _⟩, (MD HM).pick [0, 3, 1, 2]⟩
      ·have c27b0 : (t1775 == (wrap64 (t1774 - (t1777.length : Int)))) = false := beq_eq_false_iff_ne.mpr c27
       have c27b1 : (t1775 != (wrap64 (t1774 - (t1777.length : Int)))) = true := bne_iff_ne.mpr c27
       have H' := Aside0.mk H
       clear H
       obtain ⟨z19_0, z19_1, z19_2, Z19_0, Z19_1, Z19_2⟩ := bk3 (HM.bx 1 rfl)
       go_wp2_with (first | ((with_reducible refine gC 39 rfl ?_); refine pC (some 25) rfl #[.agg #[.int .i64 t1768, .int .i64 t1769, .int .i64 t1770]] rfl Try.func39 (impl_SetupOk.calls k t1768 t1769 t1770 true _ A20.out) ?_; rintro e w21 ⟨rfl, hR⟩; refine ⟨_, rfl, ?_⟩; replace HM := HM.call hR; clear hR; obtain ⟨z23_0, z23_1, z23_2, z23_3, Z23_0, Z23_1, Z23_2, Z23_3⟩ := bk4 (HM.bx 2 rfl); obtain ⟨Xo26, ko26, eo26⟩ := HM.rdR 3 rfl; subst eo26))
       go_meet
       case rel => exact ⟨_, (true), RS, H', ⟨by first | omega | exact Nat.le_refl _⟩, (MD HM).pick [0, 3, 1, 2]⟩
     ·have c25b0 : ((wrap64 (t1773 + t1774)) == t1772) = false := beq_eq_false_iff_ne.mpr c25
      have c25b1 : ((wrap64 (t1773 + t1774)) != t1772) = true := bne_iff_ne.mpr c25
      have H' := Aside0.mk H
      clear H
      obtain ⟨z19_0, z19_1, z19_2, Z19_0, Z19_1, Z19_2⟩ := bk3 (HM.bx 1 rfl)
      go_wp2_with (first | ((with_reducible refine gC 39 rfl ?_); refine pC (some 25) rfl #[.agg #[.int .i64 t1768, .int .i64 t1769, .int .i64 t1770]] rfl Try.func39 (impl_SetupOk.calls k t1768 t1769 t1770 true _ A20.out) ?_; rintro e w21 ⟨rfl, hR⟩; refine ⟨_, rfl, ?_⟩; replace HM := HM.call hR; clear hR; obtain ⟨z23_0, z23_1, z23_2, z23_3, Z23_0, Z23_1, Z23_2, Z23_3⟩ := bk4 (HM.bx 2 rfl)))
      go_meet
      case rel => exact ⟨_, (true), RS, H', ⟨by first | omega | exact Nat.le_refl _⟩, (MD HM).pick [0, 3, 1, 2]⟩
    ·have c24b0 : (t1772 == (t1765.length : Int)) = false := beq_eq_false_iff_ne.mpr c24
     have c24b1 : (t1772 != (t1765.length : Int)) = true := bne_iff_ne.mpr c24
     have H' := Aside0.mk H
     clear H
     obtain ⟨z19_0, z19_1, z19_2, Z19_0, Z19_1, Z19_2⟩ := bk3 (HM.bx 1 rfl)
     go_wp2_with (first | ((with_reducible refine gC 39 rfl ?_); refine pC (some 25) rfl #[.agg #[.int .i64 t1768, .int .i64 t1769, .int .i64 t1770]] rfl Try.func39 (impl_SetupOk.calls k t1768 t1769 t1770 true _ A20.out) ?_; rintro e w21 ⟨rfl, hR⟩; refine ⟨_, rfl, ?_⟩; replace HM := HM.call hR; clear hR; obtain ⟨z23_0, z23_1, z23_2, z23_3, Z23_0, Z23_1, Z23_2, Z23_3⟩ := bk4 (HM.bx 2 rfl)))
     go_meet
     case rel => exact ⟨_, (true), RS, H', ⟨by first | omega | exact Nat.le_refl _⟩, (MD HM).pick [0, 3, 1, 2]⟩
   ·subst c22
    have H' := Aside0.mk H
    clear H
    obtain ⟨z19_0, z19_1, z19_2, Z19_0, Z19_1, Z19_2⟩ := bk3 (HM.bx 1 rfl)
    go_wp2_with (first | ((with_reducible refine gC 39 rfl ?_); refine pC (some 25) rfl #[.agg #[.int .i64 t1768, .int .i64 t1769, .int .i64 t1770]] rfl Try.func39 (impl_SetupOk.calls k t1768 t1769 t1770 false _ A20.out) ?_; rintro e w21 ⟨rfl, hR⟩; refine ⟨_, rfl, ?_⟩; replace HM := HM.call hR; clear hR))
    go_meet
    case rel => exact ⟨_, (true), RS, H', ⟨by first | omega | exact Nat.le_refl _⟩, (MD HM).pick [0, 3, 1, 2]⟩
  case rest =>
   clear HC18 HM
   obtain ⟨kq, x69_17, rfl, HA, HJ17, HM⟩ := hcut
   cases kq with
   | zero => exact absurd HA.out (by simp [laws_FnCount.j0])
   | succ kj17 =>
    have H := HA.out
    clear HA
    simp only [laws_FnCount.j0] at H
    replace H := GN H
    obtain ⟨c32, H⟩ := H
    replace c32 := Bool.eq_false_iff.mpr c32
    subst c32
    try go_wp2
    replace H := BLt H; obtain ⟨y1782, Ny1782, H⟩ := H
    replace Ny1782 := Aside0.mk Ny1782
    replace H := GD H; obtain ⟨c33, H⟩ := H
    have LMc33 := Aside0.mk c33
    clear c33
    replace H := BLt H; obtain ⟨y1785, Ny1785, H⟩ := H
    replace Ny1785 := Aside0.mk Ny1785
    replace H := GD H; obtain ⟨c34, H⟩ := H
    have LMc34 := Aside0.mk c34
    clear c34
    replace H := BN H; obtain ⟨t1791, A35, H⟩ := H
    refine RGN 8 [0, 1, 2, 3, 4, 5, 6, 7] (fun a0 b a w' => ∃ (v1783 : Value) (v1786 : Value) (v40 : Value) (v1789 : Value) (v1792 : Value), a = putSel a0 b [(0, 70, .agg #[.int .i64 t1768, .int .i64 t1769, .int .i64 t1770]), (1, 71, v1783), (2, 72, .slice Xo12 t1765.length ko12), (3, 73, v1786), (4, 74, v40), (5, 75, v1789), (6, 76, v1792), (7, 7, v1792)] ∧ Mem w [] w' [rowR Kd.string 9 (.slice Xo12 t1765.length ko12) t1765, rowR Kd.string 9 v1778 t1777, box 28 gb1771 [.int .i64 t1768, .int .i64 t1769, .int .i64 t1770], box 36 gb1776 [.int .i64 t1772, .int .i64 t1773, .int .i64 t1774, .int .i64 t1775], sel (b 5) (rowR Kd.string 9 v1789 (y1785 ++ [(⟨#[110, 101, 119]⟩ : ByteArray)])) (sel (b 3) (rowR Kd.string 9 v1786 y1785) (sel (b 1) (rowR Kd.string 9 v1783 y1782) (emp))), sel (b 4) (rowR Kd.string 9 v40 [(⟨#[110, 101, 119]⟩ : ByteArray)]) (emp), sel (b 6) (rowR Kd.bool 4 v1792 t1791) (emp)]) laws_FnCount.tab9 laws_FnCount.bits9 ?_ ?_ ?_
    ·exact ⟨.bool false, .bool false, .bool false, .bool false, .bool false, PS0' rfl _, (HM.drew.ems 3).pick [0, 1, 2, 3, 4, 5, 6]⟩
    ·clear HM
     refine steps_cons ?_ ?_
     ·rintro b a w ⟨v1783, v1786, v40, v1789, v1792, ha, HM⟩ hb hon hoff
      refine ⟨_, rfl, fun K hK => ?_⟩
      replace ha := Aside0.mk ha
      obtain ⟨z45_0, z45_1, z45_2, Z45_0, Z45_1, Z45_2⟩ := bk3 (HM.bx 2 rfl)
      have e4 := PG ha 4
      exact VL (.agg #[.int .i64 t1768, .int .i64 t1769, .int .i64 t1770]) (hK.out _ _ ⟨v1783, v1786, v40, v1789, v1792, PUT ha 0 hb, HM⟩)
     refine steps_cons ?_ ?_
     ·rintro b a w ⟨v1783, v1786, v40, v1789, v1792, ha, HM⟩ hb hon hoff
      refine ⟨_, rfl, fun K hK => ?_⟩
      replace ha := Aside0.mk ha
      refine ST (eL 71 Kd.string 9 ([] : List ByteArray) [] (Reps.none _ _) HM rfl ?_)
      clear HM
      intro v1783 w46 HM
      replace HM := HM.nm 7 rfl Ny1782.out
      exact hK.out _ _ ⟨v1783, v1786, v40, v1789, v1792, PUT ha 1 hb, ((HM.iF 7 rfl (hoff 3 (by kernel_rfl))).iF 7 rfl (hoff 5 (by kernel_rfl))).pick [0, 1, 2, 3, 7, 5, 6]⟩
     refine steps_cons ?_ ?_
     ·rintro b a w ⟨v1783, v1786, v40, v1789, v1792, ha, HM⟩ hb hon hoff
      refine ⟨_, rfl, fun K hK => ?_⟩
      replace ha := Aside0.mk ha
      have e3 := PG ha 3
      exact VL (.slice Xo12 t1765.length ko12) (hK.out _ _ ⟨v1783, v1786, v40, v1789, v1792, PUT ha 2 hb, HM⟩)
     refine steps_cons ?_ ?_
     ·rintro b a w ⟨v1783, v1786, v40, v1789, v1792, ha, HM⟩ hb hon hoff
      refine ⟨_, rfl, fun K hK => ?_⟩
      replace ha := Aside0.mk ha
      replace HM := ((HM.sF 4 rfl (hoff 5 (by kernel_rfl))).sF 4 rfl hb).sT 4 rfl (hon 1 (by kernel_rfl))
      have e71 := PE ha 1 hon
      have e72 := PE ha 2 hon
      refine ST (eA 4 (.tmp 71) (.tmp 72) 24 9 Kd.string v1783 y1782 t1765 Xo12 t1765.length ko12 HM rfl Try.underlying24 info9 rfl (HM.CR 0 rfl).2.2 (by have h_ := LMc33.out; omega) ?_ (ops := #[]) (hw := by rfl) (hs := (eval_of e71)) (hx := (eval_of e72)))
      clear HM
      intro v1786 w47 HM
      replace HM := HM.nm 4 rfl Ny1785.out
      exact hK.out _ _ ⟨v1783, v1786, v40, v1789, v1792, PUT ha 3 hb, (HM.iF 4 rfl (hoff 5 (by kernel_rfl))).pick [0, 1, 2, 3, 4, 5, 6]⟩
     refine steps_cons ?_ ?_
     ·rintro b a w ⟨v1783, v1786, v40, v1789, v1792, ha, HM⟩ hb hon hoff
      refine ⟨_, rfl, fun K hK => ?_⟩
      replace ha := Aside0.mk ha
      refine ST (eL 74 Kd.string 9 [(⟨#[110, 101, 119]⟩ : ByteArray)] [.string (⟨#[110, 101, 119]⟩ : ByteArray)] (Reps.one (show Kd.M Kd.string _ _ _ (⟨#[110, 101, 119]⟩ : ByteArray) [.string (⟨#[110, 101, 119]⟩ : ByteArray)] from rfl) (Reps.none _ _)) HM rfl ?_)
      clear HM
      intro v40 w48 HM
      exact hK.out _ _ ⟨v1783, v1786, v40, v1789, v1792, PUT ha 4 hb, (HM).pick [0, 1, 2, 3, 4, 7, 6]⟩
     refine steps_cons ?_ ?_
     ·rintro b a w ⟨v1783, v1786, v40, v1789, v1792, ha, HM⟩ hb hon hoff
      refine ⟨_, rfl, fun K hK => ?_⟩
      replace ha := Aside0.mk ha
      replace HM := (HM.sF 4 rfl hb).sT 4 rfl (hon 3 (by kernel_rfl))
      replace HM := HM.sT 5 rfl (hon 4 (by kernel_rfl))
      obtain ⟨Xo49, ko49, eo49⟩ := HM.rdR 5 rfl
      subst eo49
      have e73 := PE ha 3 hon
      have e74 := PE ha 4 hon
      refine ST (eA 4 (.tmp 73) (.tmp 74) 24 9 Kd.string v1786 y1785 [(⟨#[110, 101, 119]⟩ : ByteArray)] Xo49 ([(⟨#[110, 101, 119]⟩ : ByteArray)].length) ko49 HM rfl Try.underlying24 info9 rfl (HM.CR 5 rfl).2.2 (by have h_ := LMc34.out; simp only [List.length_singleton]; omega) ?_ (ops := #[]) (hw := by rfl) (hs := (eval_of e73)) (hx := (eval_of e74)))
      clear HM
      intro v1789 w50 HM
      exact hK.out _ _ ⟨v1783, v1786, .slice Xo49 [(⟨#[110, 101, 119]⟩ : ByteArray)].length ko49, v1789, v1792, PUT ha 5 hb, (HM.iT 5 rfl (hon 4 (by kernel_rfl))).pick [0, 1, 2, 3, 4, 5, 6]⟩
     refine steps_cons ?_ ?_
     ·rintro b a w ⟨v1783, v1786, v40, v1789, v1792, ha, HM⟩ hb hon hoff
      refine ⟨_, rfl, fun K hK => ?_⟩
      replace ha := Aside0.mk ha
      replace HM := HM.sT 4 rfl (hon 5 (by kernel_rfl))
      obtain ⟨Xo52, ko52, eo52⟩ := HM.rdR 4 rfl
      subst eo52
      have e70 := PE ha 0 hon
      have e75 := PE ha 5 hon
      refine ST (eC (some 76) rfl #[.agg #[.int .i64 t1768, .int .i64 t1769, .int .i64 t1770], .slice Xo52 (y1785 ++ [(⟨#[110, 101, 119]⟩ : ByteArray)]).length ko52] rfl Try.func15 (impl_HitsOf.calls kj17 t1768 t1769 t1770 _ _ (y1785 ++ [(⟨#[110, 101, 119]⟩ : ByteArray)]) t1791 _ (HM.CR 4 rfl).2.2 (HM.CR 4 rfl).2.1 A35.out) ?_ (hargs := by (simp only [List.map_toArray, List.map_cons, List.map_nil, evc, eval_of e70, eval_of e75]) <;> rfl))
      rintro e w51 ⟨v1792, rfl, hR⟩
      refine ⟨_, rfl, ?_⟩
      replace HM := HM.call hR
      clear hR
      exact hK.out _ _ ⟨v1783, v1786, v40, .slice Xo52 (y1785 ++ [(⟨#[110, 101, 119]⟩ : ByteArray)]).length ko52, v1792, PUT (PCH ha 7 (hoff 7 (by kernel_rfl))) 6 hb, (HM.iT 4 rfl (hon 5 (by kernel_rfl))).pick [0, 1, 2, 3, 4, 5, 7]⟩
     refine steps_cons ?_ ?_
     ·rintro b a w ⟨v1783, v1786, v40, v1789, v1792, ha, HM⟩ hb hon hoff
      refine ⟨_, rfl, fun K hK => ?_⟩
      replace ha := Aside0.mk ha
      have e76 := PE ha 6 hon
      exact VL (v1792) (hK.out _ _ ⟨v1783, v1786, v40, v1789, v1792, PUT ha 7 hb, HM⟩)
     exact steps_nil
    rintro _ w53 ⟨v1783, v1786, v40, v1789, v1792, rfl, HM⟩
    replace HM := HM.sT 4 rfl rfl
    replace HM := HM.sT 5 rfl rfl
    replace HM := HM.sT 6 rfl rfl
    simp only [putSel, if_true, Act.put, List.setIfInBounds_toArray, List.set_cons_zero, List.set_cons_succ, gt_iff_lt, ge_iff_le]
    have HC54 := Aside0.mk H
    clear H
    go_upto_region 10 with (fail)
    go_cut [89] (fun v89 wc => ∃ (kq : Nat) (x89_53 : Bool), v89 = .bool x89_53 ∧ Aside0 (laws_FnCount.j1 kq t1765 t1777 x89_53 t1768 t1769 t1770 t1772 t1773 t1774 t1775 = some r) ∧ Aside0 (kq ≤ kj17) ∧ Mem w [] wc [rowR Kd.string 9 (.slice Xo12 t1765.length ko12) t1765, rowR Kd.string 9 v1778 t1777, box 28 gb1771 [.int .i64 t1768, .int .i64 t1769, .int .i64 t1770], box 36 gb1776 [.int .i64 t1772, .int .i64 t1773, .int .i64 t1774, .int .i64 t1775]])
    case first =>
     have H := HC54.out
     clear HC54
     replace H := IT H; rcases H with ⟨c56, H⟩ | ⟨c56, H⟩
     ·have c56b0 : ((t1791.length : Int) == (wrap64 ((t1765.length : Int) + 1))) = true := beq_iff_eq.mpr c56
      have c56b1 : ((t1791.length : Int) != (wrap64 ((t1765.length : Int) + 1))) = false := bne_eq_false_iff_eq.mpr c56
      clear c56
      replace H := GD H; obtain ⟨c57, H⟩ := H
      replace c57 : 0 ≤ (t1765.length : Int) := c57
      have c57b0 : decide (0 ≤ (t1765.length : Int)) = true := decide_eq_true c57
      have c57b1 : decide (0 ≤ t1765.length) = true := decide_eq_true (by omega)
      have c57b9 : decide (0 ≤ t1765.length) = true := decide_eq_true (by omega)
      clear c57
      replace H := GD H; obtain ⟨c58, H⟩ := H
      have c58b0 : decide ((t1765.length : Int) < (t1791.length : Int)) = true := decide_eq_true c58
      have c58b1 : decide (t1765.length < t1791.length) = true := decide_eq_true (Int.ofNat_lt.mp c58)
      have c58b9 : decide (t1765.length < t1791.length) = true := decide_eq_true (by omega)
      clear c58
      have H' := Aside0.mk H
      clear H
      obtain ⟨Xo55, ko55, eo55⟩ := HM.rdR 6 rfl
      subst eo55
      have p1794 : 0 ≤ ((t1765.length : Int) : Int) := of_decide_eq_true AS
      have q1794 : ((t1765.length : Int) : Int) < (t1791.length : Int) := of_decide_eq_true AS
      obtain ⟨ad1794, e1794, hx1794_0⟩ := Kd.at_bool (HM.CR 6 rfl).2.2 (t1765.length : Int) p1794 q1794
      cases e1794
      try simp only [Int.toNat_natCast] at hx1794_0
      replace p1794 := eq_true p1794
      replace q1794 := eq_true q1794
      go_wp2
      go_meet
      case rel => exact ⟨_, (rdOf false t1791 (t1765.length : Int)), RS, H', ⟨by have := HJ17.out; first | omega | exact Nat.le_refl _⟩, (MD HM).pick [0, 1, 2, 3]⟩
     ·have c56b0 : ((t1791.length : Int) == (wrap64 ((t1765.length : Int) + 1))) = false := beq_eq_false_iff_ne.mpr c56
      have c56b1 : ((t1791.length : Int) != (wrap64 ((t1765.length : Int) + 1))) = true := bne_iff_ne.mpr c56
      have H' := Aside0.mk H
      clear H
      obtain ⟨Xo55, ko55, eo55⟩ := HM.rdR 6 rfl
      subst eo55
      go_wp2
      go_meet
      case rel => exact ⟨_, (true), RS, H', ⟨by have := HJ17.out; first | omega | exact Nat.le_refl _⟩, (MD HM).pick [0, 1, 2, 3]⟩
    case rest =>
     clear HC54 HM
     obtain ⟨kq, x89_53, rfl, HA, HJ53, HM⟩ := hcut
     cases kq with
     | zero => exact absurd HA.out (by simp [laws_FnCount.j1])
     | succ kj53 =>
      have H := HA.out
      clear HA
      simp only [laws_FnCount.j1] at H
      replace H := GN H
      obtain ⟨c59, H⟩ := H
      replace c59 := Bool.eq_false_iff.mpr c59
      subst c59
      have H' := Aside0.mk H
      clear H
      obtain ⟨Xo60, ko60, eo60⟩ := HM.rdR 1 rfl
      subst eo60
      go_wp2
      go_loopg [92] kj53 (fun kq v92 w' => ∃ (x92_3 : Int), v92 = .int .i64 x92_3 ∧ Aside0 (laws_FnCount.l0 kq t1765 t1777 (t1777.length : Int) x92_3 t1768 t1769 t1770 t1772 t1773 t1774 t1775 = some r) ∧ Aside0 (kq ≤ kj53) ∧ Mem w [] w' [rowR Kd.string 9 (.slice Xo12 t1765.length ko12) t1765, rowR Kd.string 9 (.slice Xo60 t1777.length ko60) t1777, box 28 gb1771 [.int .i64 t1768, .int .i64 t1769, .int .i64 t1770], box 36 gb1776 [.int .i64 t1772, .int .i64 t1773, .int .i64 t1774, .int .i64 t1775]])
      case atStart => exact ⟨(0), RS, H', ⟨Nat.le_refl _⟩, (MD HM).pick [0, 1, 2, 3]⟩
      case round =>
       clear H' HM
       obtain ⟨x92_3, rfl, HA, HK3, HM⟩ := hrel
       cases gk with
       | zero => exact absurd HA.out (by simp [laws_FnCount.l0])
       | succ k3 =>
        have H := HA.out
        clear HA
        simp only [laws_FnCount.l0] at H
        go_upto_if 93 with (fail)
        replace H := IT H; rcases H with ⟨c61, H⟩ | ⟨c61, H⟩
        ·have c61b0 : decide (x92_3 < (t1777.length : Int)) = true := decide_eq_true c61
         clear c61
         (first | rw [c61b0] | (simp only [i64_w, i32_w]; rw [c61b0]) | skip)
         replace H := GD H; obtain ⟨c62, H⟩ := H
         have c62b0 : decide (0 ≤ x92_3) = true := decide_eq_true c62
         clear c62
         replace H := GD H; obtain ⟨c63, H⟩ := H
         have c63b0 : decide (x92_3 < (t1777.length : Int)) = true := decide_eq_true c63
         clear c63
         have p1795 : 0 ≤ (x92_3 : Int) := of_decide_eq_true AS
         have q1795 : (x92_3 : Int) < (t1777.length : Int) := of_decide_eq_true AS
         obtain ⟨ad1795, e1795, hx1795_0⟩ := Kd.at_string (HM.CR 1 rfl).2.2 x92_3 p1795 q1795
         cases e1795
         replace p1795 := eq_true p1795
         replace q1795 := eq_true q1795
         try go_wp2
         replace H := BLt H; obtain ⟨y1796, Ny1796, H⟩ := H
         replace Ny1796 := Aside0.mk Ny1796
         replace H := GD H; obtain ⟨c64, H⟩ := H
         have LMc64 := Aside0.mk c64
         clear c64
         replace H := BLt H; obtain ⟨y1799, Ny1799, H⟩ := H
         replace Ny1799 := Aside0.mk Ny1799
         replace H := GD H; obtain ⟨c65, H⟩ := H
         have LMc65 := Aside0.mk c65
         clear c65
         replace H := BN H; obtain ⟨t1805, A66, H⟩ := H
         refine RGN 9 [0, 1, 2, 3, 4, 5, 6, 7, 8] (fun a0 b a w' => ∃ (v1797 : Value) (v1800 : Value) (v71 : Value) (v1803 : Value) (v1806 : Value), a = putSel a0 b [(0, 96, .agg #[.int .i64 t1768, .int .i64 t1769, .int .i64 t1770]), (1, 97, v1797), (2, 98, .slice Xo12 t1765.length ko12), (3, 99, v1800), (4, 100, .string (rdOf ByteArray.empty t1777 x92_3)), (5, 101, v71), (6, 102, v1803), (7, 103, v1806), (8, 10, v1806)] ∧ Mem w [] w' [rowR Kd.string 9 (.slice Xo12 t1765.length ko12) t1765, rowR Kd.string 9 (.slice (some ad1795) t1777.length ko60) t1777, box 28 gb1771 [.int .i64 t1768, .int .i64 t1769, .int .i64 t1770], box 36 gb1776 [.int .i64 t1772, .int .i64 t1773, .int .i64 t1774, .int .i64 t1775], sel (b 6) (rowR Kd.string 9 v1803 (y1799 ++ [rdOf ByteArray.empty t1777 x92_3])) (sel (b 3) (rowR Kd.string 9 v1800 y1799) (sel (b 1) (rowR Kd.string 9 v1797 y1796) (emp))), sel (b 5) (rowR Kd.string 9 v71 [rdOf ByteArray.empty t1777 x92_3]) (emp), sel (b 7) (rowR Kd.bool 4 v1806 t1805) (emp)]) laws_FnCount.tab15 laws_FnCount.bits15 ?_ ?_ ?_
         ·exact ⟨.bool false, .bool false, .bool false, .bool false, .bool false, PS0' rfl _, (HM.drew.ems 3).pick [0, 1, 2, 3, 4, 5, 6]⟩
         ·clear HM
          refine steps_cons ?_ ?_
          ·rintro b a w ⟨v1797, v1800, v71, v1803, v1806, ha, HM⟩ hb hon hoff
           refine ⟨_, rfl, fun K hK => ?_⟩
           replace ha := Aside0.mk ha
           obtain ⟨z76_0, z76_1, z76_2, Z76_0, Z76_1, Z76_2⟩ := bk3 (HM.bx 2 rfl)
           have e4 := PG ha 4
           exact VL (.agg #[.int .i64 t1768, .int .i64 t1769, .int .i64 t1770]) (hK.out _ _ ⟨v1797, v1800, v71, v1803, v1806, PUT ha 0 hb, HM⟩)
          refine steps_cons ?_ ?_
          ·rintro b a w ⟨v1797, v1800, v71, v1803, v1806, ha, HM⟩ hb hon hoff
           refine ⟨_, rfl, fun K hK => ?_⟩
           replace ha := Aside0.mk ha
           refine ST (eL 97 Kd.string 9 ([] : List ByteArray) [] (Reps.none _ _) HM rfl ?_)
           clear HM
           intro v1797 w77 HM
           replace HM := HM.nm 7 rfl Ny1796.out
           exact hK.out _ _ ⟨v1797, v1800, v71, v1803, v1806, PUT ha 1 hb, ((HM.iF 7 rfl (hoff 3 (by kernel_rfl))).iF 7 rfl (hoff 6 (by kernel_rfl))).pick [0, 1, 2, 3, 7, 5, 6]⟩
          refine steps_cons ?_ ?_
          ·rintro b a w ⟨v1797, v1800, v71, v1803, v1806, ha, HM⟩ hb hon hoff
           refine ⟨_, rfl, fun K hK => ?_⟩
           replace ha := Aside0.mk ha
           have e3 := PG ha 3
           exact VL (.slice Xo12 t1765.length ko12) (hK.out _ _ ⟨v1797, v1800, v71, v1803, v1806, PUT ha 2 hb, HM⟩)
          refine steps_cons ?_ ?_
          ·rintro b a w ⟨v1797, v1800, v71, v1803, v1806, ha, HM⟩ hb hon hoff
           refine ⟨_, rfl, fun K hK => ?_⟩
           replace ha := Aside0.mk ha
           replace HM := ((HM.sF 4 rfl (hoff 6 (by kernel_rfl))).sF 4 rfl hb).sT 4 rfl (hon 1 (by kernel_rfl))
           have e97 := PE ha 1 hon
           have e98 := PE ha 2 hon
           refine ST (eA 4 (.tmp 97) (.tmp 98) 24 9 Kd.string v1797 y1796 t1765 Xo12 t1765.length ko12 HM rfl Try.underlying24 info9 rfl (HM.CR 0 rfl).2.2 (by have h_ := LMc64.out; omega) ?_ (ops := #[]) (hw := by rfl) (hs := (eval_of e97)) (hx := (eval_of e98)))
           clear HM
           intro v1800 w78 HM
           replace HM := HM.nm 4 rfl Ny1799.out
           exact hK.out _ _ ⟨v1797, v1800, v71, v1803, v1806, PUT ha 3 hb, (HM.iF 4 rfl (hoff 6 (by kernel_rfl))).pick [0, 1, 2, 3, 4, 5, 6]⟩
          refine steps_cons ?_ ?_
          ·rintro b a w ⟨v1797, v1800, v71, v1803, v1806, ha, HM⟩ hb hon hoff
           refine ⟨_, rfl, fun K hK => ?_⟩
           replace ha := Aside0.mk ha
           have e9 := PG ha 9
           exact VL (.string (rdOf ByteArray.empty t1777 x92_3)) (hK.out _ _ ⟨v1797, v1800, v71, v1803, v1806, PUT ha 4 hb, HM⟩)
          refine steps_cons ?_ ?_
          ·rintro b a w ⟨v1797, v1800, v71, v1803, v1806, ha, HM⟩ hb hon hoff
           refine ⟨_, rfl, fun K hK => ?_⟩
           replace ha := Aside0.mk ha
           have e100 := PE ha 4 hon
           refine ST (eL 101 Kd.string 9 [rdOf ByteArray.empty t1777 x92_3] [.string (rdOf ByteArray.empty t1777 x92_3)] (Reps.one (show Kd.M Kd.string _ _ _ (rdOf ByteArray.empty t1777 x92_3) [.string (rdOf ByteArray.empty t1777 x92_3)] from rfl) (Reps.none _ _)) HM rfl ?_)
           clear HM
           intro v71 w79 HM
           exact hK.out _ _ ⟨v1797, v1800, v71, v1803, v1806, PUT ha 5 hb, (HM).pick [0, 1, 2, 3, 4, 7, 6]⟩
          refine steps_cons ?_ ?_
          ·rintro b a w ⟨v1797, v1800, v71, v1803, v1806, ha, HM⟩ hb hon hoff
           refine ⟨_, rfl, fun K hK => ?_⟩
           replace ha := Aside0.mk ha
           replace HM := (HM.sF 4 rfl hb).sT 4 rfl (hon 3 (by kernel_rfl))
           replace HM := HM.sT 5 rfl (hon 5 (by kernel_rfl))
           obtain ⟨Xo80, ko80, eo80⟩ := HM.rdR 5 rfl
           subst eo80
           have e99 := PE ha 3 hon
           have e101 := PE ha 5 hon
           refine ST (eA 4 (.tmp 99) (.tmp 101) 24 9 Kd.string v1800 y1799 [rdOf ByteArray.empty t1777 x92_3] Xo80 ([rdOf ByteArray.empty t1777 x92_3].length) ko80 HM rfl Try.underlying24 info9 rfl (HM.CR 5 rfl).2.2 (by have h_ := LMc65.out; simp only [List.length_singleton]; omega) ?_ (ops := #[]) (hw := by rfl) (hs := (eval_of e99)) (hx := (eval_of e101)))
           clear HM
           intro v1803 w81 HM
           exact hK.out _ _ ⟨v1797, v1800, .slice Xo80 [rdOf ByteArray.empty t1777 x92_3].length ko80, v1803, v1806, PUT ha 6 hb, (HM.iT 5 rfl (hon 5 (by kernel_rfl))).pick [0, 1, 2, 3, 4, 5, 6]⟩
          refine steps_cons ?_ ?_
          ·rintro b a w ⟨v1797, v1800, v71, v1803, v1806, ha, HM⟩ hb hon hoff
           refine ⟨_, rfl, fun K hK => ?_⟩
           replace ha := Aside0.mk ha
           replace HM := HM.sT 4 rfl (hon 6 (by kernel_rfl))
           obtain ⟨Xo83, ko83, eo83⟩ := HM.rdR 4 rfl
           subst eo83
           have e96 := PE ha 0 hon
           have e102 := PE ha 6 hon
           refine ST (eC (some 103) rfl #[.agg #[.int .i64 t1768, .int .i64 t1769, .int .i64 t1770], .slice Xo83 (y1799 ++ [rdOf ByteArray.empty t1777 x92_3]).length ko83] rfl Try.func15 (impl_HitsOf.calls k3 t1768 t1769 t1770 _ _ (y1799 ++ [rdOf ByteArray.empty t1777 x92_3]) t1805 _ (HM.CR 4 rfl).2.2 (HM.CR 4 rfl).2.1 A66.out) ?_ (hargs := by (simp only [List.map_toArray, List.map_cons, List.map_nil, evc, eval_of e96, eval_of e102]) <;> rfl))
           rintro e w82 ⟨v1806, rfl, hR⟩
           refine ⟨_, rfl, ?_⟩
           replace HM := HM.call hR
           clear hR
           exact hK.out _ _ ⟨v1797, v1800, v71, .slice Xo83 (y1799 ++ [rdOf ByteArray.empty t1777 x92_3]).length ko83, v1806, PUT (PCH ha 8 (hoff 8 (by kernel_rfl))) 7 hb, (HM.iT 4 rfl (hon 6 (by kernel_rfl))).pick [0, 1, 2, 3, 4, 5, 7]⟩
          refine steps_cons ?_ ?_
          ·rintro b a w ⟨v1797, v1800, v71, v1803, v1806, ha, HM⟩ hb hon hoff
           refine ⟨_, rfl, fun K hK => ?_⟩
           replace ha := Aside0.mk ha
           have e103 := PE ha 7 hon
           exact VL (v1806) (hK.out _ _ ⟨v1797, v1800, v71, v1803, v1806, PUT ha 8 hb, HM⟩)
          exact steps_nil
         rintro _ w84 ⟨v1797, v1800, v71, v1803, v1806, rfl, HM⟩
         replace HM := HM.sT 4 rfl rfl
         replace HM := HM.sT 5 rfl rfl
         replace HM := HM.sT 6 rfl rfl
         simp only [putSel, if_true, Act.put, List.setIfInBounds_toArray, List.set_cons_zero, List.set_cons_succ, gt_iff_lt, ge_iff_le]
         replace H := GD H; obtain ⟨c86, H⟩ := H
         have c86b0 : ((t1805.length : Int) == (wrap64 ((t1765.length : Int) + 1))) = true := beq_iff_eq.mpr c86
         have c86b1 : ((t1805.length : Int) != (wrap64 ((t1765.length : Int) + 1))) = false := bne_eq_false_iff_eq.mpr c86
         clear c86
         replace H := GD H; obtain ⟨c87, H⟩ := H
         replace c87 : 0 ≤ (t1765.length : Int) := c87
         have c87b0 : decide (0 ≤ (t1765.length : Int)) = true := decide_eq_true c87
         have c87b1 : decide (0 ≤ t1765.length) = true := decide_eq_true (by omega)
         have c87b9 : decide (0 ≤ t1765.length) = true := decide_eq_true (by omega)
         clear c87
         replace H := GD H; obtain ⟨c88, H⟩ := H
         have c88b0 : decide ((t1765.length : Int) < (t1805.length : Int)) = true := decide_eq_true c88
         have c88b1 : decide (t1765.length < t1805.length) = true := decide_eq_true (Int.ofNat_lt.mp c88)
         have c88b9 : decide (t1765.length < t1805.length) = true := decide_eq_true (by omega)
         clear c88
         replace H := GD H; obtain ⟨c89, H⟩ := H
         have c89b0 : rdOf false t1805 (t1765.length : Int) = true := c89
         clear c89
         (first | rw [c89b0] | skip)
         have H' := Aside0.mk H
         clear H
         obtain ⟨Xo85, ko85, eo85⟩ := HM.rdR 6 rfl
         subst eo85
         have p1808 : 0 ≤ ((t1765.length : Int) : Int) := of_decide_eq_true AS
         have q1808 : ((t1765.length : Int) : Int) < (t1805.length : Int) := of_decide_eq_true AS
         obtain ⟨ad1808, e1808, hx1808_0⟩ := Kd.at_bool (HM.CR 6 rfl).2.2 (t1765.length : Int) p1808 q1808
         cases e1808
         try simp only [Int.toNat_natCast] at hx1808_0
         replace p1808 := eq_true p1808
         replace q1808 := eq_true q1808
         go_wp2
         go_roundg k3
         case measure => have := HJ17.out; have := HJ53.out; have := HK3.out; omega
         case rel => exact ⟨(wrap64 (x92_3 + 1)), RS, H', ⟨by have := HJ17.out; have := HJ53.out; have := HK3.out; omega⟩, (MD HM).pick [0, 1, 2, 3]⟩
        ·have c61b0 : decide (x92_3 < (t1777.length : Int)) = false := decide_eq_false c61
         clear c61
         (first | rw [c61b0] | (simp only [i64_w, i32_w]; rw [c61b0]) | skip)
         try go_wp2
         replace H := BN H; obtain ⟨t1809, A90, H⟩ := H
         replace H := BN H; obtain ⟨t1810, A91, H⟩ := H
         refine RGN 6 [0, 1, 2, 3, 4, 5] (fun a0 b a w' => a = putSel a0 b [(0, 119, .agg #[.int .i64 t1772, .int .i64 t1773, .int .i64 t1774, .int .i64 t1775]), (1, 120, .int .i64 t1809), (2, 121, .agg #[.int .i64 t1772, .int .i64 t1773, .int .i64 t1774, .int .i64 t1775]), (3, 122, .int .i64 t1810), (4, 123, .bool (t1809 == t1810)), (5, 2, .bool (t1809 == t1810))] ∧ Mem w [] w' [rowR Kd.string 9 (.slice Xo12 t1765.length ko12) t1765, rowR Kd.string 9 (.slice Xo60 t1777.length ko60) t1777, box 28 gb1771 [.int .i64 t1768, .int .i64 t1769, .int .i64 t1770], box 36 gb1776 [.int .i64 t1772, .int .i64 t1773, .int .i64 t1774, .int .i64 t1775]]) laws_FnCount.tab19 laws_FnCount.bits19 ?_ ?_ ?_
         ·exact ⟨PS0' rfl _, (HM.drew).pick [0, 1, 2, 3]⟩
         ·clear HM
          refine SY ?_ ?_
          ·intro b a w ha HM hb hon hoff K hK
           obtain ⟨z96_0, z96_1, z96_2, z96_3, Z96_0, Z96_1, Z96_2, Z96_3⟩ := bk4 (HM.bx 3 rfl)
           have e5 := PG ha 5
           exact VL (.agg #[.int .i64 t1772, .int .i64 t1773, .int .i64 t1774, .int .i64 t1775]) (hK.out _ _ ⟨PUT ha 0 hb, HM⟩)
          refine SY ?_ ?_
          ·intro b a w ha HM hb hon hoff K hK
           have e119 := PE ha 0 hon
           refine ST (eC (some 120) rfl #[.agg #[.int .i64 t1772, .int .i64 t1773, .int .i64 t1774, .int .i64 t1775]] rfl Try.func40 (impl_Rate.calls t1772 t1773 t1774 t1775 t1809 _ A90.out) ?_ (hargs := by (simp only [List.map_toArray, List.map_cons, List.map_nil, evc, eval_of e119]) <;> rfl))
           rintro e w97 ⟨rfl, hR⟩
           refine ⟨_, rfl, ?_⟩
           replace HM := HM.call hR
           clear hR
           exact hK.out _ _ ⟨PUT ha 1 hb, (HM).pick [0, 1, 2, 3]⟩
          refine SY ?_ ?_
          ·intro b a w ha HM hb hon hoff K hK
           obtain ⟨z98_0, z98_1, z98_2, z98_3, Z98_0, Z98_1, Z98_2, Z98_3⟩ := bk4 (HM.bx 3 rfl)
           have e5 := PG ha 5
           exact VL (.agg #[.int .i64 t1772, .int .i64 t1773, .int .i64 t1774, .int .i64 t1775]) (hK.out _ _ ⟨PUT ha 2 hb, HM⟩)
          refine SY ?_ ?_
          ·intro b a w ha HM hb hon hoff K hK
           have e121 := PE ha 2 hon
           refine ST (eC (some 122) rfl #[.agg #[.int .i64 t1772, .int .i64 t1773, .int .i64 t1774, .int .i64 t1775]] rfl Try.func41 (spec_Rate.calls t1772 t1773 t1774 t1775 t1810 _ A91.out) ?_ (hargs := by (simp only [List.map_toArray, List.map_cons, List.map_nil, evc, eval_of e121]) <;> rfl))
           rintro e w99 ⟨rfl, hR⟩
           refine ⟨_, rfl, ?_⟩
           replace HM := HM.call hR
           clear hR
           exact hK.out _ _ ⟨PUT ha 3 hb, (HM).pick [0, 1, 2, 3]⟩
          refine SY ?_ ?_
          ·intro b a w ha HM hb hon hoff K hK
           have e120 := PE ha 1 hon
           have e122 := PE ha 3 hon
           exact VL (.bool (t1809 == t1810)) (hK.out _ _ ⟨PUT ha 4 hb, HM⟩)
          refine SY ?_ ?_
          ·intro b a w ha HM hb hon hoff K hK
           have e123 := PE ha 4 hon
           exact VL (.bool (t1809 == t1810)) (hK.out _ _ ⟨PUT ha 5 hb, HM⟩)
          exact steps_nil
         rintro _ w100 ⟨rfl, HM⟩
         simp only [putSel, if_true, Act.put, List.setIfInBounds_toArray, List.set_cons_zero, List.set_cons_succ, gt_iff_lt, ge_iff_le]
         obtain rfl := Option.some.inj H
         go_wp2
         go_ret
         exact ⟨ER, HM.bel⟩
end Go.Proofs.Ytanakbmhclpamaa.G
