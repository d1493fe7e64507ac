/- Part 3 of the claim FnNone, merged by pack.py (this session's program) out of: the print's words, cut to what is needed; texts that gen.py printed (it runs the kit's print in place); texts of this session. -/
import Derived.Deep.RegionLaw
import Derived.RegionTactic
import Derived.Test.YtanakbmhclpamaaKFnNone1
import Derived.Test.YtanakbmhclpamaaKFnNone2
namespace Go.Proofs.Ytanakbmhclpamaa.Man
end Go.Proofs.Ytanakbmhclpamaa.Man
namespace Go.Proofs.Ytanakbmhclpamaa.Mm
end Go.Proofs.Ytanakbmhclpamaa.Mm
namespace Go.Proofs.Ytanakbmhclpamaa.Sh
end Go.Proofs.Ytanakbmhclpamaa.Sh
namespace Go.Proofs.Ytanakbmhclpamaa.G
open Go.RowKit Go.Proofs.YtanakbmhclpamaaW.PrintWords Go.Proofs.YtanakbmhclpamaaW.PrintLast Go.Proofs.YtanakbmhclpamaaW.PrintMore Go.Proofs.Ytanakbmhclpamaa.Sh
attribute [local go_sem] max2_int min2_int max_two min_two max_three min_three max_four min_four
set_option linter.unusedVariables false
set_option linter.unusedSimpArgs false
open Go.Proofs.Ytanakbmhclpamaa.Mm
def spec_l01Of.f (s0_0 : List Int) (s0_1 : Int) (s0_2 : Int) (l1 : List ByteArray) : Option (ByteArray × Int × Int) := (spec_l01Below.f s0_0 s0_1 s0_2 (l1.length : Int)).bind fun bt1545 => (if 0 ≤ bt1545.1 then (if bt1545.1 < (l1.length : Int) then (some (rdOf ByteArray.empty l1 bt1545.1, bt1545.2.1, bt1545.2.2)) else (none)) else (none))
set_option maxHeartbeats 8000000 in
set_option maxRecDepth 100000 in
theorem spec_l01Of.calls (g : Nat) (A0_0 : Option Addr) (c0_0 : Nat) (s0_0 : List Int) (s0_1 : Int) (s0_2 : Int) (A1 : Option Addr) (c1 : Nat) (l1 : List ByteArray) (r1 : ByteArray) (r2 : Int) (r3 : Int) (w0 w : World) (F : List SP) (hrs0_0 : Kd.C (Kd.int .u8) w0 A0_0 s0_0.length s0_0) (hcs0_0 : s0_0.length ≤ c0_0) (hM : Mem w0 F w [box 81 g [.slice A0_0 s0_0.length c0_0, .int .i64 s0_1, .int .i64 s0_2], row Kd.string 9 (.slice A1 l1.length c1) l1]) (h : spec_l01Of.f s0_0 s0_1 s0_2 l1 = some (r1, r2, r3)) :
  Calls Try.prog 101 #[.pointer (some ⟨g, 0, none⟩), .slice A1 l1.length c1] w fun e w' => e = .returned (.string r1) ∧ Mem w0 F w' [box 81 g [.slice A0_0 s0_0.length c0_0, .int .i64 r2, .int .i64 r3], row Kd.string 9 (.slice A1 l1.length c1) l1] := by
 have HRs0_0 := Aside0.mk hrs0_0
 have HCs0_0 := Aside0.mk hcs0_0
 clear hrs0_0 hcs0_0
 have HM := hM
 clear hM
 have H := h
 clear h
 unfold spec_l01Of.f at H
 go_enter Try.func101, Try.ntmps101
 replace H := BN H; obtain ⟨⟨t1545, t1546, t1547⟩, A3, H⟩ := H
 replace H := GD H; obtain ⟨c5, H⟩ := H
 have c5b0 : decide (0 ≤ t1545) = true := decide_eq_true c5
 clear c5
 replace H := GD H; obtain ⟨c6, H⟩ := H
 have c6b0 : decide (t1545 < (l1.length : Int)) = true := decide_eq_true c6
 clear c6
 simp only [Option.some.injEq, Prod.mk.injEq] at H
 obtain ⟨rfl, rfl, rfl⟩ := H
 go_wp2_with (first | ((with_reducible refine gC 58 rfl ?_); refine pC (some 9) rfl #[.pointer (some ⟨g, 0, none⟩), .int .i64 (l1.length : Int)] rfl Try.func58 (spec_l01Below.calls g A0_0 c0_0 s0_0 s0_1 s0_2 (l1.length : Int) t1545 t1546 t1547 _ _ _ HRs0_0.out HCs0_0.out (HM.focus [1] [0]) A3.out) ?_; rintro e w4 ⟨rfl, hR⟩; refine ⟨_, rfl, ?_⟩; replace HM := nzM hR.unfocus; clear hR; have p1548 : 0 ≤ (t1545 : Int) := of_decide_eq_true AS; have q1548 : (t1545 : Int) < (l1.length : Int) := of_decide_eq_true AS; obtain ⟨ad1548, e1548, hx1548_0⟩ := Kd.at_string (HM.C 0 rfl).2.2 t1545 p1548 q1548; cases e1548; replace p1548 := eq_true p1548; replace q1548 := eq_true q1548))
 go_ret
 exact ⟨ER, (MD HM).pick [1, 0]⟩
def spec_l10Key.f (s0_0 : List Int) (s0_1 : Int) (s0_2 : Int) : Option (ByteArray × Int × Int) := (spec_l01Of.f s0_0 s0_1 s0_2 (([(⟨#[97]⟩ : ByteArray), (⟨#[98]⟩ : ByteArray), (⟨#[99]⟩ : ByteArray), (⟨#[100]⟩ : ByteArray), (⟨#[101]⟩ : ByteArray), (⟨#[102]⟩ : ByteArray), (⟨#[103]⟩ : ByteArray), (⟨#[104]⟩ : ByteArray)] : List ByteArray))).bind fun bt1552 => (some (bt1552.1, bt1552.2.1, bt1552.2.2))
set_option maxHeartbeats 8000000 in
set_option maxRecDepth 100000 in
theorem spec_l10Key.calls (g : Nat) (A0_0 : Option Addr) (c0_0 : Nat) (s0_0 : List Int) (s0_1 : Int) (s0_2 : Int) (r1 : ByteArray) (r2 : Int) (r3 : Int) (w0 w : World) (F : List SP) (hrs0_0 : Kd.C (Kd.int .u8) w0 A0_0 s0_0.length s0_0) (hcs0_0 : s0_0.length ≤ c0_0) (hM : Mem w0 F w [box 81 g [.slice A0_0 s0_0.length c0_0, .int .i64 s0_1, .int .i64 s0_2]]) (h : spec_l10Key.f s0_0 s0_1 s0_2 = some (r1, r2, r3)) :
  Calls Try.prog 80 #[.pointer (some ⟨g, 0, none⟩)] w fun e w' => e = .returned (.string r1) ∧ Mem w0 F w' [box 81 g [.slice A0_0 s0_0.length c0_0, .int .i64 r2, .int .i64 r3]] := by
 have HRs0_0 := Aside0.mk hrs0_0
 have HCs0_0 := Aside0.mk hcs0_0
 clear hrs0_0 hcs0_0
 have HM := hM
 clear hM
 have H := h
 clear h
 unfold spec_l10Key.f at H
 go_enter Try.func80, Try.ntmps80
 replace H := BN H; obtain ⟨⟨t1552, t1553, t1554⟩, A3, H⟩ := H
 simp only [Option.some.injEq, Prod.mk.injEq] at H
 obtain ⟨rfl, rfl, rfl⟩ := H
 go_wp2_with (first | ((with_reducible refine gN 4 rfl ?_); refine pL 4 Kd.string 9 ([(⟨#[97]⟩ : ByteArray), (⟨#[98]⟩ : ByteArray), (⟨#[99]⟩ : ByteArray), (⟨#[100]⟩ : ByteArray), (⟨#[101]⟩ : ByteArray), (⟨#[102]⟩ : ByteArray), (⟨#[103]⟩ : ByteArray), (⟨#[104]⟩ : ByteArray)] : List ByteArray) [.string (⟨#[97]⟩ : ByteArray), .string (⟨#[98]⟩ : ByteArray), .string (⟨#[99]⟩ : ByteArray), .string (⟨#[100]⟩ : ByteArray), .string (⟨#[101]⟩ : ByteArray), .string (⟨#[102]⟩ : ByteArray), .string (⟨#[103]⟩ : ByteArray), .string (⟨#[104]⟩ : ByteArray)] (Reps.one (show Kd.M Kd.string _ _ _ (⟨#[97]⟩ : ByteArray) [.string (⟨#[97]⟩ : ByteArray)] from rfl) (Reps.one (show Kd.M Kd.string _ _ _ (⟨#[98]⟩ : ByteArray) [.string (⟨#[98]⟩ : ByteArray)] from rfl) (Reps.one (show Kd.M Kd.string _ _ _ (⟨#[99]⟩ : ByteArray) [.string (⟨#[99]⟩ : ByteArray)] from rfl) (Reps.one (show Kd.M Kd.string _ _ _ (⟨#[100]⟩ : ByteArray) [.string (⟨#[100]⟩ : ByteArray)] from rfl) (Reps.one (show Kd.M Kd.string _ _ _ (⟨#[101]⟩ : ByteArray) [.string (⟨#[101]⟩ : ByteArray)] from rfl) (Reps.one (show Kd.M Kd.string _ _ _ (⟨#[102]⟩ : ByteArray) [.string (⟨#[102]⟩ : ByteArray)] from rfl) (Reps.one (show Kd.M Kd.string _ _ _ (⟨#[103]⟩ : ByteArray) [.string (⟨#[103]⟩ : ByteArray)] from rfl) (Reps.one (show Kd.M Kd.string _ _ _ (⟨#[104]⟩ : ByteArray) [.string (⟨#[104]⟩ : ByteArray)] from rfl) (Reps.none _ _))))))))) HM rfl ?_; clear HM; intro v1550 w2 HM; obtain ⟨Xo5, ko5, eo5⟩ := HM.rdR 1 rfl; subst eo5; replace HM := HM.toQ 1 rfl) | ((with_reducible refine gC 101 rfl ?_); refine pC (some 5) rfl #[.pointer (some ⟨g, 0, none⟩), .slice Xo5 (([(⟨#[97]⟩ : ByteArray), (⟨#[98]⟩ : ByteArray), (⟨#[99]⟩ : ByteArray), (⟨#[100]⟩ : ByteArray), (⟨#[101]⟩ : ByteArray), (⟨#[102]⟩ : ByteArray), (⟨#[103]⟩ : ByteArray), (⟨#[104]⟩ : ByteArray)] : List ByteArray)).length ko5] rfl Try.func101 (spec_l01Of.calls g A0_0 c0_0 s0_0 s0_1 s0_2 Xo5 ko5 (([(⟨#[97]⟩ : ByteArray), (⟨#[98]⟩ : ByteArray), (⟨#[99]⟩ : ByteArray), (⟨#[100]⟩ : ByteArray), (⟨#[101]⟩ : ByteArray), (⟨#[102]⟩ : ByteArray), (⟨#[103]⟩ : ByteArray), (⟨#[104]⟩ : ByteArray)] : List ByteArray)) t1552 t1553 t1554 _ _ _ HRs0_0.out HCs0_0.out (HM.focus [] [0, 1]) A3.out) ?_; rintro e w4 ⟨rfl, hR⟩; refine ⟨_, rfl, ?_⟩; replace HM := nzM hR.unfocus; clear hR))
 go_ret
 exact ⟨ER, (MD HM).pick [0]⟩
mutual
def spec_l12Asks.l0 : Nat → List ByteArray → Int → List Int → Int → Int → Option (List ByteArray × Int × Int)
 | 0, _, _, _, _, _ => none
 | k + 1, x5, x6, x1000, x1001, x1002 => if x6 > 0 then ((spec_l01Below.f x1000 x1001 x1002 3).bind fun bt1561 => (if bt1561.1 = 0 then (spec_l12Asks.j1 k x5 x6 (decide ((x5.length : Int) > 0)) x1000 bt1561.2.1 bt1561.2.2) else (spec_l12Asks.j1 k x5 x6 false x1000 bt1561.2.1 bt1561.2.2))) else (some (x5, x1001, x1002))
def spec_l12Asks.j1 : Nat → List ByteArray → Int → Bool → List Int → Int → Int → Option (List ByteArray × Int × Int)
 | 0, _, _, _, _, _, _ => none
 | k + 1, x5, x6, x25, x1000, x1001, x1002 => if x25 = true then ((spec_l01Below.f x1000 x1001 x1002 (x5.length : Int)).bind fun bt1564 => (if 0 ≤ bt1564.1 then (if bt1564.1 < (x5.length : Int) then (if x5.length < 8796093022208 then (spec_l12Asks.l0 k (x5 ++ [rdOf ByteArray.empty x5 bt1564.1]) (wrap64 (x6 - 1)) x1000 bt1564.2.1 bt1564.2.2) else (none)) else (none)) else (none))) else ((spec_l10Key.f x1000 x1001 x1002).bind fun bt1571 => (if x5.length < 8796093022208 then (spec_l12Asks.l0 k (x5 ++ [bt1571.1]) (wrap64 (x6 - 1)) x1000 bt1571.2.1 bt1571.2.2) else (none)))
end
def spec_l12Asks.f (k : Nat) (s0_0 : List Int) (s0_1 : Int) (s0_2 : Int) (a1 : Int) : Option (List ByteArray × Int × Int) := (spec_l01Below.f s0_0 s0_1 s0_2 (wrap64 (a1 + 1))).bind fun bt1558 => (spec_l12Asks.l0 k (([] : List ByteArray)) bt1558.1 s0_0 bt1558.2.1 bt1558.2.2)
set_option maxHeartbeats 8000000 in
set_option maxRecDepth 100000 in
theorem spec_l12Asks.calls (k : Nat) (g : Nat) (A0_0 : Option Addr) (c0_0 : Nat) (s0_0 : List Int) (s0_1 : Int) (s0_2 : Int) (a1 : Int) (r1 : List ByteArray) (r2 : Int) (r3 : Int) (w0 w : World) (F : List SP) (hrs0_0 : Kd.C (Kd.int .u8) w0 A0_0 s0_0.length s0_0) (hcs0_0 : s0_0.length ≤ c0_0) (hM : Mem w0 F w [box 81 g [.slice A0_0 s0_0.length c0_0, .int .i64 s0_1, .int .i64 s0_2]]) (h : spec_l12Asks.f k s0_0 s0_1 s0_2 a1 = some (r1, r2, r3)) :
  Calls Try.prog 57 #[.pointer (some ⟨g, 0, none⟩), .int .i64 a1] w fun e w' => ∃ v0_ : Value, e = .returned (v0_) ∧ Mem w0 F w' [rowR Kd.string 9 v0_ r1, box 81 g [.slice A0_0 s0_0.length c0_0, .int .i64 r2, .int .i64 r3]] := by
 have HRs0_0 := Aside0.mk hrs0_0
 have HCs0_0 := Aside0.mk hcs0_0
 clear hrs0_0 hcs0_0
 have HM := hM
 clear hM
 have H := h
 clear h
 unfold spec_l12Asks.f at H
 go_enter Try.func57, Try.ntmps57
 replace H := BN H; obtain ⟨⟨t1558, t1559, t1560⟩, A4, H⟩ := H
 have H' := Aside0.mk H
 clear H
 go_wp2_with (first | ((with_reducible refine gN 8 rfl ?_); refine pL 8 Kd.string 9 ([] : List ByteArray) [] (Reps.none _ _) HM rfl ?_; clear HM; intro v1556 w3 HM) | ((with_reducible refine gC 58 rfl ?_); refine pC (some 12) rfl #[.pointer (some ⟨g, 0, none⟩), .int .i64 (wrap64 (a1 + 1))] rfl Try.func58 (spec_l01Below.calls g A0_0 c0_0 s0_0 s0_1 s0_2 (wrap64 (a1 + 1)) t1558 t1559 t1560 _ _ _ HRs0_0.out HCs0_0.out (HM.focus [1] [0]) A4.out) ?_; rintro e w5 ⟨rfl, hR⟩; refine ⟨_, rfl, ?_⟩; replace HM := nzM hR.unfocus; clear hR))
 go_loopg [5, 6] k (fun kq v5 v6 w' => ∃ (x5_1 : List ByteArray) (x6_1 : Int) (x1001_1 : Int) (x1002_1 : Int), v6 = .int .i64 x6_1 ∧ Aside0 (spec_l12Asks.l0 kq x5_1 x6_1 s0_0 x1001_1 x1002_1 = some (r1, r2, r3)) ∧ Aside0 (kq ≤ k) ∧ Mem w0 F w' [rowR Kd.string 9 v5 x5_1, box 81 g [.slice A0_0 s0_0.length c0_0, .int .i64 x1001_1, .int .i64 x1002_1]])
 case atStart => exact ⟨((([] : List ByteArray))), (t1558), (t1559), (t1560), RS, H', ⟨Nat.le_refl _⟩, (MD HM).pick [0, 1]⟩
 case round =>
  clear H' HM
  obtain ⟨x5_1, x6_1, x1001_1, x1002_1, rfl, HA, HK1, HM⟩ := hrel
  cases gk with
  | zero => exact absurd HA.out (by simp [spec_l12Asks.l0])
  | succ k1 =>
   have H := HA.out
   clear HA
   simp only [spec_l12Asks.l0] at H
   go_upto_if 14 with (fail)
   replace H := IT H; rcases H with ⟨c6, H⟩ | ⟨c6, H⟩
   ·have c6b0 : decide (0 < x6_1) = true := decide_eq_true c6
    clear c6
    (first | rw [c6b0] | (simp only [i64_w, i32_w]; rw [c6b0]) | skip)
    replace H := BN H; obtain ⟨⟨t1561, t1562, t1563⟩, A7, H⟩ := H
    have HC9 := Aside0.mk H
    clear H
    go_upto_region 6 with (first | ((with_reducible refine gC 58 rfl ?_); refine pC (some 18) rfl #[.pointer (some ⟨g, 0, none⟩), .int .i64 3] rfl Try.func58 (spec_l01Below.calls g A0_0 c0_0 s0_0 x1001_1 x1002_1 3 t1561 t1562 t1563 _ _ _ HRs0_0.out HCs0_0.out (HM.focus [0] [1]) A7.out) ?_; rintro e w8 ⟨rfl, hR⟩; refine ⟨_, rfl, ?_⟩; replace HM := nzM hR.unfocus; clear hR))
    go_cut [25] (fun v25 wc => ∃ (kq : Nat) (x25_8 : Bool), v25 = .bool x25_8 ∧ Aside0 (spec_l12Asks.j1 kq x5_1 x6_1 x25_8 s0_0 t1562 t1563 = some (r1, r2, r3)) ∧ Aside0 (kq ≤ k1) ∧ Mem w0 F wc [rowR Kd.string 9 u5 x5_1, box 81 g [.slice A0_0 s0_0.length c0_0, .int .i64 t1562, .int .i64 t1563]])
    case first =>
     have H := HC9.out
     clear HC9
     replace H := IT H; rcases H with ⟨c10, H⟩ | ⟨c10, H⟩
     ·have c10b0 : (t1561 == 0) = true := beq_iff_eq.mpr c10
      have c10b1 : (t1561 != 0) = false := bne_eq_false_iff_eq.mpr c10
      clear c10
      have H' := Aside0.mk H
      clear H
      obtain ⟨Xo11, ko11, eo11⟩ := HM.rdR 0 rfl
      subst eo11
      go_wp2
      go_meet
      case rel => exact ⟨_, (decide ((x5_1.length : Int) > 0)), RS, H', ⟨by have := HK1.out; first | omega | exact Nat.le_refl _⟩, (MD HM).pick [0, 1]⟩
     ·have c10b0 : (t1561 == 0) = false := beq_eq_false_iff_ne.mpr c10
      have c10b1 : (t1561 != 0) = true := bne_iff_ne.mpr c10
      have H' := Aside0.mk H
      clear H
      go_wp2
      go_meet
      case rel => exact ⟨_, (false), RS, H', ⟨by have := HK1.out; first | omega | exact Nat.le_refl _⟩, (MD HM).pick [0, 1]⟩
    case rest =>
     clear HC9 HM
     obtain ⟨kq, x25_8, rfl, HA, HJ8, HM⟩ := hcut
     cases kq with
     | zero => exact absurd HA.out (by simp [spec_l12Asks.j1])
     | succ kj8 =>
      have H := HA.out
      clear HA
      simp only [spec_l12Asks.j1] at H
      go_upto_if 25 with (fail)
      replace H := IB H
      rcases H with ⟨c12, H⟩ | ⟨c12, H⟩
      ·subst c12
       replace H := BN H; obtain ⟨⟨t1564, t1565, t1566⟩, A14, H⟩ := H
       replace H := GD H; obtain ⟨c16, H⟩ := H
       have c16b0 : decide (0 ≤ t1564) = true := decide_eq_true c16
       clear c16
       replace H := GD H; obtain ⟨c17, H⟩ := H
       have c17b0 : decide (t1564 < (x5_1.length : Int)) = true := decide_eq_true c17
       clear c17
       replace H := GD H; obtain ⟨c18, H⟩ := H
       have LMc18 := Aside0.mk c18
       clear c18
       have H' := Aside0.mk H
       clear H
       obtain ⟨Xo13, ko13, eo13⟩ := HM.rdR 0 rfl
       subst eo13
       go_wp2_with (first | ((with_reducible refine gC 58 rfl ?_); refine pC (some 31) rfl #[.pointer (some ⟨g, 0, none⟩), .int .i64 (x5_1.length : Int)] rfl Try.func58 (spec_l01Below.calls g A0_0 c0_0 s0_0 t1562 t1563 (x5_1.length : Int) t1564 t1565 t1566 _ _ _ HRs0_0.out HCs0_0.out (HM.focus [0] [1]) A14.out) ?_; rintro e w15 ⟨rfl, hR⟩; refine ⟨_, rfl, ?_⟩; replace HM := nzM hR.unfocus; clear hR; have p1567 : 0 ≤ (t1564 : Int) := of_decide_eq_true AS; have q1567 : (t1564 : Int) < (x5_1.length : Int) := of_decide_eq_true AS; obtain ⟨ad1567, e1567, hx1567_0⟩ := Kd.at_string (HM.CR 0 rfl).2.2 t1564 p1567 q1567; cases e1567; replace p1567 := eq_true p1567; replace q1567 := eq_true q1567) | ((with_reducible refine gN 34 rfl ?_); refine pL 34 Kd.string 9 [rdOf ByteArray.empty x5_1 t1564] [.string (rdOf ByteArray.empty x5_1 t1564)] (Reps.one (show Kd.M Kd.string _ _ _ (rdOf ByteArray.empty x5_1 t1564) [.string (rdOf ByteArray.empty x5_1 t1564)] from rfl) (Reps.none _ _)) HM rfl ?_; clear HM; intro v20 w19 HM; obtain ⟨Xv20, kv20, ev20⟩ := HM.rdR 2 rfl; subst ev20) | ((with_reducible refine gate_builtin (b := .append) (xs := #[.tmp 26, .tmp 34]) rfl ?_); refine pA 0 (.tmp 26) (.tmp 34) 24 9 Kd.string (.slice (some ad1567) x5_1.length ko13) x5_1 [rdOf ByteArray.empty x5_1 t1564] Xv20 ([rdOf ByteArray.empty x5_1 t1564].length) kv20 HM rfl Try.underlying24 info9 rfl (HM.CR 2 rfl).2.2 (by have h_ := LMc18.out; simp only [List.length_singleton]; omega) ?_; clear HM; intro v1569 w21 HM))
       go_roundg kj8
       case measure => have := HK1.out; have := HJ8.out; omega
       case rel => exact ⟨((x5_1 ++ [rdOf ByteArray.empty x5_1 t1564])), (wrap64 (x6_1 - 1)), (t1565), (t1566), RS, H', ⟨by have := HK1.out; have := HJ8.out; omega⟩, (MD HM).pick [0, 1]⟩
      ·subst c12
       replace H := BN H; obtain ⟨⟨t1571, t1572, t1573⟩, A22, H⟩ := H
       replace H := GD H; obtain ⟨c24, H⟩ := H
       have LMc24 := Aside0.mk c24
       clear c24
       have H' := Aside0.mk H
       clear H
       go_wp2_with (first | ((with_reducible refine gC 80 rfl ?_); refine pC (some 38) rfl #[.pointer (some ⟨g, 0, none⟩)] rfl Try.func80 (spec_l10Key.calls g A0_0 c0_0 s0_0 t1562 t1563 t1571 t1572 t1573 _ _ _ HRs0_0.out HCs0_0.out (HM.focus [0] [1]) A22.out) ?_; rintro e w23 ⟨rfl, hR⟩; refine ⟨_, rfl, ?_⟩; replace HM := nzM hR.unfocus; clear hR) | ((with_reducible refine gN 39 rfl ?_); refine pL 39 Kd.string 9 [t1571] [.string t1571] (Reps.one (show Kd.M Kd.string _ _ _ t1571 [.string t1571] from rfl) (Reps.none _ _)) HM rfl ?_; clear HM; intro v26 w25 HM; obtain ⟨Xv26, kv26, ev26⟩ := HM.rdR 2 rfl; subst ev26) | ((with_reducible refine gate_builtin (b := .append) (xs := #[.tmp 36, .tmp 39]) rfl ?_); refine pA 0 (.tmp 36) (.tmp 39) 24 9 Kd.string u5 x5_1 [t1571] Xv26 ([t1571].length) kv26 HM rfl Try.underlying24 info9 rfl (HM.CR 2 rfl).2.2 (by have h_ := LMc24.out; simp only [List.length_singleton]; omega) ?_; clear HM; intro v1575 w27 HM))
       go_roundg kj8
       case measure => have := HK1.out; have := HJ8.out; omega
       case rel => exact ⟨((x5_1 ++ [t1571])), (wrap64 (x6_1 - 1)), (t1572), (t1573), RS, H', ⟨by have := HK1.out; have := HJ8.out; omega⟩, (MD HM).pick [0, 1]⟩
   ·have c6b0 : decide (0 < x6_1) = false := decide_eq_false c6
    clear c6
    (first | rw [c6b0] | (simp only [i64_w, i32_w]; rw [c6b0]) | skip)
    simp only [Option.some.injEq, Prod.mk.injEq] at H
    obtain ⟨rfl, rfl, rfl⟩ := H
    go_wp2
    go_ret
    exact ⟨_, ER, (MD HM).pick [0, 1]⟩
def spec_MakeAsks.f (k : Nat) (l0 : List Int) (a1 : Int) : Option (List ByteArray) := (spec_l01New.f k l0).bind fun bt1577 => ((spec_l12Asks.f k bt1577.1 bt1577.2.1 (wrap64 (bt1577.2.2 + 17)) a1).bind fun bt1581 => (some bt1581.1))
set_option maxHeartbeats 8000000 in
set_option maxRecDepth 100000 in
theorem spec_MakeAsks.calls (k : Nat) (A0 : Option Addr) (c0 : Nat) (l0 : List Int) (a1 : Int) (r : List ByteArray) (w : World) (hr0 : Kd.C (Kd.int .u8) w A0 l0.length l0) (hc0 : l0.length ≤ c0) (h : spec_MakeAsks.f k l0 a1 = some r) :
  Calls Try.prog 28 #[.slice A0 l0.length c0, .int .i64 a1] w fun e w' => ∃ v0_ : Value, e = .returned (v0_) ∧ Mem w [] w' [rowR Kd.string 9 v0_ r] := by
 have HR0 := Aside0.mk hr0
 have HC0 := Aside0.mk hc0
 clear hr0 hc0
 have HM := Mem.nil w
 have H := h
 clear h
 unfold spec_MakeAsks.f at H
 go_enter Try.func28, Try.ntmps28
 replace H := BN H; obtain ⟨⟨t1577, t1578, t1579⟩, A3, H⟩ := H
 replace H := BN H; obtain ⟨⟨t1581, t1584, t1585⟩, A8, H⟩ := H
 obtain rfl := Option.some.inj H
 go_wp2_with (first | ((with_reducible refine gC 56 rfl ?_); refine pC (some 8) rfl #[.slice A0 l0.length c0] rfl Try.func56 (spec_l01New.calls k _ _ l0 t1577 t1578 t1579 _ _ HM.bel HR0.out HC0.out A3.out) ?_; rintro e w4 ⟨gb1580, Xn5, kn5, rfl, hR, hRn5, hCn5⟩; refine ⟨_, rfl, ?_⟩; have HRn5 := Aside0.mk hRn5; have HCn5 := Aside0.mk hCn5; clear hRn5 hCn5; replace HM := HM.call hR; clear hR; obtain ⟨z6_0, z6_1, z6_2, Z6_0, Z6_1, Z6_2⟩ := bk3 (HM.bx 0 rfl)) | ((with_reducible refine gS 16 rfl ?_); refine pS 0 16 2 [.int .i64 (wrap64 (t1579 + 17))] HM rfl rfl ?_; clear HM; intro w7 HM) | ((with_reducible refine gC 57 rfl ?_); refine pC (some 19) rfl #[.pointer (some ⟨gb1580, 0, none⟩), .int .i64 a1] rfl Try.func57 (spec_l12Asks.calls k gb1580 Xn5 kn5 t1577 t1578 (wrap64 (t1579 + 17)) a1 t1581 t1584 t1585 _ _ _ HRn5.out HCn5.out (HM.focus [] [0]) A8.out) ?_; rintro e w9 ⟨v1582, rfl, hR⟩; refine ⟨_, rfl, ?_⟩; replace HM := nzM hR.unfocus; clear hR))
 go_ret
 exact ⟨_, ER, (MD HM).pick [0]⟩
end Go.Proofs.Ytanakbmhclpamaa.G

namespace Go.Proofs.Ytanakbmhclpamaa.G
open Go.RowKit Go.Proofs.YtanakbmhclpamaaW.PrintWords Go.Proofs.YtanakbmhclpamaaW.PrintLast Go.Proofs.YtanakbmhclpamaaW.PrintMore Go.Proofs.Ytanakbmhclpamaa.Sh
attribute [local go_sem] max2_int min2_int max_two min_two max_three min_three max_four min_four
set_option linter.unusedVariables false
set_option linter.unusedSimpArgs false
def laws_less.f (a0 : Bool) : Option (Int) := if a0 = true then (some 1) else (some 0)
set_option maxHeartbeats 8000000 in
set_option maxRecDepth 100000 in
theorem laws_less.calls (a0 : Bool) (r : Int) (w : World) (h : laws_less.f a0 = some r) :
  Calls Try.prog 31 #[.bool a0] w fun e w' => e = .returned (.int .i64 r) ∧ Drawn0 w w' := by
 have H : (if a0 = true then (some 1) else (some 0)) = some r := h
 clear h
 by_cases c2 : a0 = true
 ·subst c2
  replace H := IP H
  obtain rfl := Option.some.inj H
  go_enter Try.func31, Try.ntmps31
  go_wp2
  go_ret
  exact ⟨by first | rfl | (simp; done) | (simp [*]; done), DR⟩
 ·replace c2 := Bool.eq_false_iff.mpr c2
  subst c2
  replace H := IN H
  obtain rfl := Option.some.inj H
  go_enter Try.func31, Try.ntmps31
  go_wp2
  go_ret
  exact ⟨by first | rfl | (simp; done) | (simp [*]; done), DR⟩
end Go.Proofs.Ytanakbmhclpamaa.G

namespace Go.Proofs.Ytanakbmhclpamaa.G
open Go.RowKit Go.Proofs.YtanakbmhclpamaaW.PrintWords Go.Proofs.YtanakbmhclpamaaW.PrintLast Go.Proofs.YtanakbmhclpamaaW.PrintMore Go.Proofs.Ytanakbmhclpamaa.Sh
attribute [local go_sem] max2_int min2_int max_two min_two max_three min_three max_four min_four
set_option linter.unusedVariables false
set_option linter.unusedSimpArgs false
open Go.Proofs.Ytanakbmhclpamaa.Mm
def impl_NextAsk.l0 : Nat → List ByteArray → ByteArray → Int → Option (Int)
 | 0, _, _, _ => none
 | k + 1, x0, x1, x7 => if x7 < (x0.length : Int) then (if 0 ≤ x7 then (if (rdOf ByteArray.empty x0 x7).toList = x1.toList then (some x7) else (impl_NextAsk.l0 k x0 x1 (wrap64 (x7 + 1)))) else (none)) else (some (x0.length : Int))
def impl_NextAsk.f (k : Nat) (l0 : List ByteArray) (a1 : ByteArray) (a2 : Int) : Option (Int) := impl_NextAsk.l0 k l0 a1 (mx 0 a2)
set_option maxHeartbeats 8000000 in
set_option maxRecDepth 100000 in
theorem impl_NextAsk.calls (k : Nat) (A0 : Option Addr) (c0 : Nat) (l0 : List ByteArray) (a1 : ByteArray) (a2 : Int) (r : Int) (w : World) (hr0 : Kd.C Kd.string w A0 l0.length l0) (hc0 : l0.length ≤ c0) (h : impl_NextAsk.f k l0 a1 a2 = some r) :
  Calls Try.prog 102 #[.slice A0 l0.length c0, .string a1, .int .i64 a2] w fun e w' => e = .returned (.int .i64 r) ∧ Mem w [] w' [] := by
 have HR0 := Aside0.mk hr0
 have HC0 := Aside0.mk hc0
 clear hr0 hc0
 have HM := Mem.nil w
 have H := h
 clear h
 unfold impl_NextAsk.f at H
 go_enter Try.func102, Try.ntmps102
 obtain ⟨ji4, hji4⟩ : ∃ j_ : Int, (mx 0 a2) = j_ := ⟨_, rfl⟩
 (first | rw [hji4] at H | simp only [hji4] at H | skip)
 have hji4_ : (if 0 < a2 then a2 else 0) = ji4 := hji4
 (try (have hji4l : 0 ≤ ji4 := by (rw [← hji4]; unfold mx; (repeat' split) <;> omega)))
 have H' := Aside0.mk H
 clear H
 go_wp2
 go_loopg [7] k (fun kq v7 w' => ∃ (x7_1 : Int), v7 = .int .i64 x7_1 ∧ Aside0 (impl_NextAsk.l0 kq l0 a1 x7_1 = some r) ∧ Aside0 (kq ≤ k) ∧ Mem w [] w' [])
 case atStart => exact ⟨(ji4), RS, H', ⟨Nat.le_refl _⟩, (MD HM).pick []⟩
 case round =>
  clear H' HM
  obtain ⟨x7_1, rfl, HA, HK1, HM⟩ := hrel
  cases gk with
  | zero => exact absurd HA.out (by simp [impl_NextAsk.l0])
  | succ k1 =>
   have H := HA.out
   clear HA
   simp only [impl_NextAsk.l0] at H
   go_upto_if 13 with (fail)
   replace H := IT H; rcases H with ⟨c5, H⟩ | ⟨c5, H⟩
   ·have c5b0 : decide (x7_1 < (l0.length : Int)) = true := decide_eq_true c5
    clear c5
    (first | rw [c5b0] | (simp only [i64_w, i32_w]; rw [c5b0]) | skip)
    replace H := GD H; obtain ⟨c6, H⟩ := H
    have c6b0 : decide (0 ≤ x7_1) = true := decide_eq_true c6
    clear c6
    have p1684 : 0 ≤ (x7_1 : Int) := of_decide_eq_true AS
    have q1684 : (x7_1 : Int) < (l0.length : Int) := of_decide_eq_true AS
    obtain ⟨ad1684, e1684, hx1684_0⟩ := Kd.at_string (HM.came HR0.out) x7_1 p1684 q1684
    cases e1684
    replace p1684 := eq_true p1684
    replace q1684 := eq_true q1684
    go_upto_if 21 with (fail)
    replace H := IT H; rcases H with ⟨c7, H⟩ | ⟨c7, H⟩
    ·have c7b0 : ((rdOf ByteArray.empty l0 x7_1).toList == a1.toList) = true := beq_iff_eq.mpr c7
     have c7b1 : ((rdOf ByteArray.empty l0 x7_1).toList != a1.toList) = false := bne_eq_false_iff_eq.mpr c7
     clear c7
     (first | rw [c7b0] | (simp only [i64_w, i32_w]; rw [c7b0]) | skip)
     obtain rfl := Option.some.inj H
     go_wp2
     go_ret
     exact ⟨ER, (MD HM).pick []⟩
    ·have c7b0 : ((rdOf ByteArray.empty l0 x7_1).toList == a1.toList) = false := beq_eq_false_iff_ne.mpr c7
     have c7b1 : ((rdOf ByteArray.empty l0 x7_1).toList != a1.toList) = true := bne_iff_ne.mpr c7
     (first | rw [c7b0] | (simp only [i64_w, i32_w]; rw [c7b0]) | skip)
     have H' := Aside0.mk H
     clear H
     go_wp2
     go_roundg k1
     case measure => have := HK1.out; omega
     case rel => exact ⟨(wrap64 (x7_1 + 1)), RS, H', ⟨by have := HK1.out; omega⟩, (MD HM).pick []⟩
   ·have c5b0 : decide (x7_1 < (l0.length : Int)) = false := decide_eq_false c5
    clear c5
    (first | rw [c5b0] | (simp only [i64_w, i32_w]; rw [c5b0]) | skip)
    obtain rfl := Option.some.inj H
    go_wp2
    go_ret
    exact ⟨ER, (MD HM).pick []⟩
def impl_BestGo.l0 : Nat → List ByteArray → Int → Int → Int → List ByteArray → Int → Int → Option (Int)
 | 0, _, _, _, _, _, _, _ => none
 | k + 1, x0, x2, x7, x8, x12, x13, x14 => if x14 < x13 then (if 0 ≤ x14 then (if x14 < (x12.length : Int) then ((impl_NextAsk.f k x0 (rdOf ByteArray.empty x12 x14) x2).bind fun t1686 => (if t1686 > x8 then (impl_BestGo.l0 k x0 x2 x14 t1686 x12 x13 (wrap64 (x14 + 1))) else (impl_BestGo.l0 k x0 x2 x7 x8 x12 x13 (wrap64 (x14 + 1))))) else (none)) else (none)) else (some x7)
def impl_BestGo.f (k : Nat) (l0 : List ByteArray) (l1 : List ByteArray) (a2 : Int) : Option (Int) := impl_BestGo.l0 k l0 a2 (-1) (-1) l1 (l1.length : Int) 0
set_option maxHeartbeats 8000000 in
set_option maxRecDepth 100000 in
theorem impl_BestGo.calls (k : Nat) (A0 : Option Addr) (c0 : Nat) (l0 : List ByteArray) (A1 : Option Addr) (c1 : Nat) (l1 : List ByteArray) (a2 : Int) (r : Int) (w : World) (hr0 : Kd.C Kd.string w A0 l0.length l0) (hc0 : l0.length ≤ c0) (hr1 : Kd.C Kd.string w A1 l1.length l1) (hc1 : l1.length ≤ c1) (h : impl_BestGo.f k l0 l1 a2 = some r) :
  Calls Try.prog 88 #[.slice A0 l0.length c0, .slice A1 l1.length c1, .int .i64 a2] w fun e w' => e = .returned (.int .i64 r) ∧ Mem w [] w' [] := by
 have HR0 := Aside0.mk hr0
 have HC0 := Aside0.mk hc0
 clear hr0 hc0
 have HR1 := Aside0.mk hr1
 have HC1 := Aside0.mk hc1
 clear hr1 hc1
 have HM := Mem.nil w
 have H := h
 clear h
 unfold impl_BestGo.f at H
 go_enter Try.func88, Try.ntmps88
 have H' := Aside0.mk H
 clear H
 go_wp2
 go_loopg [7, 8, 14] k (fun kq v7 v8 v14 w' => ∃ (x7_1 : Int) (x8_1 : Int) (x14_1 : Int), v7 = .int .i64 x7_1 ∧ v8 = .int .i64 x8_1 ∧ v14 = .int .i64 x14_1 ∧ Aside0 (impl_BestGo.l0 kq l0 a2 x7_1 x8_1 l1 (l1.length : Int) x14_1 = some r) ∧ Aside0 (kq ≤ k) ∧ Mem w [] w' [])
 case atStart => exact ⟨((-1)), ((-1)), (0), RS, RS, RS, H', ⟨Nat.le_refl _⟩, (MD HM).pick []⟩
 case round =>
  clear H' HM
  obtain ⟨x7_1, x8_1, x14_1, rfl, rfl, rfl, HA, HK1, HM⟩ := hrel
  cases gk with
  | zero => exact absurd HA.out (by simp [impl_BestGo.l0])
  | succ k1 =>
   have H := HA.out
   clear HA
   simp only [impl_BestGo.l0] at H
   go_upto_if 15 with (fail)
   replace H := IT H; rcases H with ⟨c4, H⟩ | ⟨c4, H⟩
   ·have c4b0 : decide (x14_1 < (l1.length : Int)) = true := decide_eq_true c4
    clear c4
    (first | rw [c4b0] | (simp only [i64_w, i32_w]; rw [c4b0]) | skip)
    replace H := GD H; obtain ⟨c5, H⟩ := H
    have c5b0 : decide (0 ≤ x14_1) = true := decide_eq_true c5
    clear c5
    replace H := GD H; obtain ⟨c6, H⟩ := H
    have c6b0 : decide (x14_1 < (l1.length : Int)) = true := decide_eq_true c6
    clear c6
    replace H := BN H; obtain ⟨t1686, A7, H⟩ := H
    have p1685 : 0 ≤ (x14_1 : Int) := of_decide_eq_true AS
    have q1685 : (x14_1 : Int) < (l1.length : Int) := of_decide_eq_true AS
    obtain ⟨ad1685, e1685, hx1685_0⟩ := Kd.at_string (HM.came HR1.out) x14_1 p1685 q1685
    cases e1685
    replace p1685 := eq_true p1685
    replace q1685 := eq_true q1685
    go_upto_if 25 with (first | ((with_reducible refine gC 102 rfl ?_); refine pC (some 22) rfl #[.slice A0 l0.length c0, .string (rdOf ByteArray.empty l1 x14_1), .int .i64 a2] rfl Try.func102 (impl_NextAsk.calls k1 _ _ l0 (rdOf ByteArray.empty l1 x14_1) a2 t1686 _ (HM.came HR0.out) HC0.out A7.out) ?_; rintro e w8 ⟨rfl, hR⟩; refine ⟨_, rfl, ?_⟩; replace HM := HM.call hR; clear hR))
    replace H := IT H; rcases H with ⟨c9, H⟩ | ⟨c9, H⟩
    ·have c9b0 : decide (x8_1 < t1686) = true := decide_eq_true c9
     clear c9
     (first | rw [c9b0] | (simp only [i64_w, i32_w]; rw [c9b0]) | skip)
     have H' := Aside0.mk H
     clear H
     go_wp2
     go_roundg k1
     case measure => have := HK1.out; omega
     case rel => exact ⟨(x14_1), (t1686), (wrap64 (x14_1 + 1)), RS, RS, RS, H', ⟨by have := HK1.out; omega⟩, (MD HM).pick []⟩
    ·have c9b0 : decide (x8_1 < t1686) = false := decide_eq_false c9
     clear c9
     (first | rw [c9b0] | (simp only [i64_w, i32_w]; rw [c9b0]) | skip)
     have H' := Aside0.mk H
     clear H
     go_wp2
     go_roundg k1
     case measure => have := HK1.out; omega
     case rel => exact ⟨(x7_1), (x8_1), (wrap64 (x14_1 + 1)), RS, RS, RS, H', ⟨by have := HK1.out; omega⟩, (MD HM).pick []⟩
   ·have c4b0 : decide (x14_1 < (l1.length : Int)) = false := decide_eq_false c4
    clear c4
    (first | rw [c4b0] | (simp only [i64_w, i32_w]; rw [c4b0]) | skip)
    obtain rfl := Option.some.inj H
    go_wp2
    go_ret
    exact ⟨ER, (MD HM).pick []⟩
end Go.Proofs.Ytanakbmhclpamaa.G

namespace Go.Proofs.Ytanakbmhclpamaa.G
open Go.RowKit Go.Proofs.YtanakbmhclpamaaW.PrintWords Go.Proofs.YtanakbmhclpamaaW.PrintLast Go.Proofs.YtanakbmhclpamaaW.PrintMore Go.Proofs.Ytanakbmhclpamaa.Sh
attribute [local go_sem] max2_int min2_int max_two min_two max_three min_three max_four min_four
set_option linter.unusedVariables false
set_option linter.unusedSimpArgs false
open Go.Proofs.Ytanakbmhclpamaa.Man
def slices_Delete_string_string.f (l0 : List ByteArray) (a1 : Int) (a2 : Int) : Option (List ByteArray) := if 0 ≤ a1 ∧ a1 < (l0.length : Int) ∧ a2 = a1 + 1 then some (l0.eraseIdx a1.toNat) else none
set_option maxHeartbeats 4000000 in
set_option maxRecDepth 100000 in
theorem slices_Delete_string_string.calls (P0_ : Nat → Prop) (u9000_ : Value) (l0 : List ByteArray) (a1 : Int) (a2 : Int) (r : List ByteArray) (w0 w : World) (hB : Below w0.heap.size w0 w) (ho0 : Kd.R Kd.string 9 w w0.heap.size P0_ u9000_ l0) (h : slices_Delete_string_string.f l0 a1 a2 = some r) :
  Calls Try.prog 89 #[u9000_, .int .i64 a1, .int .i64 a2] w fun e w' => ∃ v0_ : Value, e = .returned v0_ ∧ Kd.R Kd.string 9 w' w0.heap.size (fun k_ => (P0_ k_ ∨ w.heap.size ≤ k_)) v0_ r ∧ Below w0.heap.size w0 w' ∧ Kept w w' (fun k_ => P0_ k_) := by
 unfold slices_Delete_string_string.f at h
 by_cases c : 0 ≤ a1 ∧ a1 < (l0.length : Int) ∧ a2 = a1 + 1
 ·rw [if_pos c] at h
  obtain rfl := Option.some.inj h
  obtain ⟨c0, c1, rfl⟩ := c
  clear h
  obtain ⟨n, rfl⟩ := Int.eq_ofNat_of_zero_le c0
  have hn : n < l0.length := by omega
  obtain ⟨g, cap, rfl, gb, gl, cl, HG⟩ := Kd.R_form ho0 (by omega)
  obtain ⟨_, hlc, hC⟩ := Kd.R_reads' ho0
  have hL : l0.length ≤ 9223372036854775807 := hC.2.1
  clear hC
  have e1 : IntKind.i64.wrap ((n : Int) + 1) = (n : Int) + 1 := by exact (i64_w _).trans (by unfold wrap64; omega)
  have HO := Aside0.mk ho0
  have HBW := Aside0.mk hB
  have HGB := Aside0.mk gb
  have HGL := Aside0.mk gl
  have HN := Aside0.mk hn
  have b1 : (n : Int) + 1 ≤ (l0.length : Int) := by omega
  have b2 : (l0.length : Int) ≤ (cap : Int) := by omega
  have b3 : (n : Int) ≤ (l0.length : Int) := by omega
  have b4 : (n : Int) ≤ (cap : Int) := by omega
  have b5 : (n : Int) + 1 ≤ (cap : Int) := by omega
  have b6 : (n : Int) ≤ (n : Int) + 1 := by omega
  have b7 : (0 : Int) ≤ (n : Int) + 1 := by omega
  have e2 : ((n : Int) == (n : Int) + 1) = false := by rw [beq_eq_false_iff_ne]; omega
  by_cases hcn : cap = n + 1
  ·subst hcn
   have HS := Aside0.mk (show w0.heap.size ≤ w.drew.heap.size from hB.size)
   clear hn ho0 hB gb gl HG hL hlc c1 e1
   go_enter Try.func89, Try.ntmps89
   go_wp2
   go_region_law (refine Kd.R_delete_step Kd.string (w0 := w0) w0.heap.size rfl (.tmp 22) (.tmp 25) 24 9 rfl Try.underlying24 (by kernel_rfl) (by rfl) (by rfl) ((if_pos rfl).symm) (by rfl) (Kd.R_drew HO.out) HN.out (below_drew1 HBW.out) HS.out ?_; intro w1 hr hb hg)
   have HR := Aside0.mk hr
   have HB2 := Aside0.mk hb
   have HG2 := Aside0.mk hg
   clear hr hb hg
   obtain ⟨w2, hrun, hr2, hg2⟩ := R_clear_run (P := Try.prog) Kd.string w0.heap.size 24 0 9 (.string ⟨#[]⟩) Try.underlying24 Try.zeroValue9 rfl (by decide) HR.out (m := l0.length - (l0.length - 1)) (by have := HN.out; omega) (by have := HN.out; omega) ((n + 1) - (l0.length - 1))
   have HR2 := Aside0.mk hr2
   have HG3 := Aside0.mk hg2
   clear hr2 hg2
   (try rw [show (l0.length - 1) * Kd.sz Kd.string = l0.length - 1 from Nat.mul_one _] at hrun)
   change Sem.run _ (Builtin.clear_ #[24] 0 #[.slice (some ⟨g, (l0.length - 1), none⟩) (l0.length - (l0.length - 1)) ((n + 1) - (l0.length - 1))]) w1 = _ at hrun
   go_wp2
   go_ret
   have hgw : w.grownBy w2 (some g) := World.grownBy.trans (World.grownBy.trans (show w.grownBy w.drew (some g) from ⟨rfl, rfl, rfl, Nat.le_refl _, fun _ _ _ => rfl⟩) HG2.out) HG3.out
   refine ⟨_, rfl, Kd.R_mono HR2.out (fun _ h => Or.inl h), HB2.out.grown HG3.out ?_ (fun k hk => by injection hk with hk; subst hk; exact HGB.out), Kept.of_grown hgw (Kept.refl _ _) (fun k hk => by injection hk with hk; subst hk; exact .inl (HO.out.1 _ rfl))⟩
   exact HB2.out.size
  ·have hcn' : (cap == n + 1) = false := by rw [beq_eq_false_iff_ne]; exact hcn
   have HA := Aside0.mk (show some ⟨g, (n + 1), none⟩ = (if cap = n + 1 then some (⟨g, 0, none⟩ : Addr) else (some (⟨g, 0, none⟩ : Addr)).map (·.add ((n + 1) * Kd.string.sz))) from by rw [if_neg hcn, Option.map_some, add_plain]; first | rfl | rw [show (n + 1) * Kd.sz _ = n + 1 from Nat.mul_one _])
   have HS := Aside0.mk (show w0.heap.size ≤ w.drew.heap.size from hB.size)
   clear hn ho0 hB gb gl HG hL hlc c1 e1
   go_enter Try.func89, Try.ntmps89
   go_wp2
   go_region_law (refine Kd.R_delete_step Kd.string (w0 := w0) w0.heap.size rfl (.tmp 22) (.tmp 25) 24 9 rfl Try.underlying24 (by kernel_rfl) (by rfl) (by rfl) HA.out (by rfl) (Kd.R_drew HO.out) HN.out (below_drew1 HBW.out) HS.out ?_; intro w1 hr hb hg)
   have HR := Aside0.mk hr
   have HB2 := Aside0.mk hb
   have HG2 := Aside0.mk hg
   clear hr hb hg
   obtain ⟨w2, hrun, hr2, hg2⟩ := R_clear_run (P := Try.prog) Kd.string w0.heap.size 24 0 9 (.string ⟨#[]⟩) Try.underlying24 Try.zeroValue9 rfl (by decide) HR.out (m := l0.length - (l0.length - 1)) (by have := HN.out; omega) (by have := HN.out; omega) (cap - (l0.length - 1))
   have HR2 := Aside0.mk hr2
   have HG3 := Aside0.mk hg2
   clear hr2 hg2
   (try rw [show (l0.length - 1) * Kd.sz Kd.string = l0.length - 1 from Nat.mul_one _] at hrun)
   change Sem.run _ (Builtin.clear_ #[24] 0 #[.slice (some ⟨g, (l0.length - 1), none⟩) (l0.length - (l0.length - 1)) (cap - (l0.length - 1))]) w1 = _ at hrun
   go_wp2
   go_ret
   have hgw : w.grownBy w2 (some g) := World.grownBy.trans (World.grownBy.trans (show w.grownBy w.drew (some g) from ⟨rfl, rfl, rfl, Nat.le_refl _, fun _ _ _ => rfl⟩) HG2.out) HG3.out
   refine ⟨_, rfl, Kd.R_mono HR2.out (fun _ h => Or.inl h), HB2.out.grown HG3.out ?_ (fun k hk => by injection hk with hk; subst hk; exact HGB.out), Kept.of_grown hgw (Kept.refl _ _) (fun k hk => by injection hk with hk; subst hk; exact .inl (HO.out.1 _ rfl))⟩
   exact HB2.out.size
 ·rw [if_neg c] at h; cases h
end Go.Proofs.Ytanakbmhclpamaa.G

namespace Go.Proofs.Ytanakbmhclpamaa.G
open Go.RowKit Go.Proofs.YtanakbmhclpamaaW.PrintWords Go.Proofs.YtanakbmhclpamaaW.PrintLast Go.Proofs.YtanakbmhclpamaaW.PrintMore Go.Proofs.Ytanakbmhclpamaa.Sh
attribute [local go_sem] max2_int min2_int max_two min_two max_three min_three max_four min_four
set_option linter.unusedVariables false
set_option linter.unusedSimpArgs false
open Go.Proofs.Ytanakbmhclpamaa.Mm
mutual
def impl_BestHits.j0 : Nat → List ByteArray → Int → Bool → Option (List Bool)
 | 0, _, _, _ => none
 | k + 1, x0, x1, x18 => if x18 = true then (some ([] : List Bool)) else (impl_BestHits.l0 k x0 x1 (([] : List Bool)) (([] : List ByteArray)) x0 (x0.length : Int) 0)
def impl_BestHits.l0 : Nat → List ByteArray → Int → List Bool → List ByteArray → List ByteArray → Int → Int → Option (List Bool)
 | 0, _, _, _, _, _, _, _ => none
 | k + 1, x0, x1, x5, x6, x21, x22, x23 => if x23 < x22 then (if 0 ≤ x23 then (if x23 < (x21.length : Int) then ((slices_Contains_string_string.f k x6 (rdOf ByteArray.empty x21 x23)).bind fun t1696 => (if x5.length < 140737488355328 then ((some (x5 ++ [t1696] : List Bool)).bind fun y1697 => (if t1696 = true then (impl_BestHits.l0 k x0 x1 y1697 x6 x21 x22 (wrap64 (x23 + 1))) else (if (x6.length : Int) = x1 then ((impl_BestGo.f k x0 x6 (wrap64 (x23 + 1))).bind fun t1700 => ((slices_Delete_string_string.f x6 t1700 (wrap64 (t1700 + 1))).bind fun t1701 => (if t1701.length < 8796093022208 then (impl_BestHits.l0 k x0 x1 y1697 (t1701 ++ [rdOf ByteArray.empty x21 x23]) x21 x22 (wrap64 (x23 + 1))) else (none)))) else (if x6.length < 8796093022208 then (impl_BestHits.l0 k x0 x1 y1697 (x6 ++ [rdOf ByteArray.empty x21 x23]) x21 x22 (wrap64 (x23 + 1))) else (none))))) else (none))) else (none)) else (none)) else (some x5)
end
def impl_BestHits.f (k : Nat) (l0 : List ByteArray) (a1 : Int) : Option (List Bool) := (impl_AsksOk.f k l0).bind fun t1687 => (if t1687 = true then ((impl_within.f a1 1 60).bind fun t1688 => (impl_BestHits.j0 k l0 a1 (!t1688))) else (impl_BestHits.j0 k l0 a1 true))
set_option maxHeartbeats 8000000 in
set_option maxRecDepth 100000 in
theorem impl_BestHits.calls (k : Nat) (A0 : Option Addr) (c0 : Nat) (l0 : List ByteArray) (a1 : Int) (r : List Bool) (w : World) (hr0 : Kd.C Kd.string w A0 l0.length l0) (hc0 : l0.length ≤ c0) (h : impl_BestHits.f k l0 a1 = some r) :
  Calls Try.prog 66 #[.slice A0 l0.length c0, .int .i64 a1] w fun e w' => ∃ v0_ : Value, e = .returned (v0_) ∧ Mem w [] w' [rowR Kd.bool 4 v0_ r] := by
 have HR0 := Aside0.mk hr0
 have HC0 := Aside0.mk hc0
 clear hr0 hc0
 have HM := Mem.nil w
 have H := h
 clear h
 unfold impl_BestHits.f at H
 go_enter Try.func66, Try.ntmps66
 have HC3 := Aside0.mk H
 clear H
 go_upto_region 1 with (fail)
 go_cut [18] (fun v18 wc => ∃ (kq : Nat) (x18_2 : Bool), v18 = .bool x18_2 ∧ Aside0 (impl_BestHits.j0 kq l0 a1 x18_2 = some r) ∧ Aside0 (kq ≤ k) ∧ Mem w [] wc [])
 case first =>
  have H := HC3.out
  clear HC3
  replace H := BN H; obtain ⟨t1687, A4, H⟩ := H
  replace H := IB H
  rcases H with ⟨c6, H⟩ | ⟨c6, H⟩
  ·subst c6
   replace H := BN H; obtain ⟨t1688, A7, H⟩ := H
   have H' := Aside0.mk H
   clear H
   go_wp2_with (first | ((with_reducible refine gC 42 rfl ?_); refine pC (some 12) rfl #[.slice A0 l0.length c0] rfl Try.func42 (impl_AsksOk.calls k _ _ l0 true _ (HM.came HR0.out) HC0.out A4.out) ?_; rintro e w5 ⟨rfl, hR⟩; refine ⟨_, rfl, ?_⟩; replace HM := HM.call hR; clear hR) | ((with_reducible refine gC 64 rfl ?_); refine pC (some 16) rfl #[.int .i64 a1, .int .i64 1, .int .i64 60] rfl Try.func64 (impl_within.calls a1 1 60 t1688 _ A7.out) ?_; rintro e w8 ⟨rfl, hd⟩; refine ⟨_, rfl, ?_⟩; replace HM := HM.drawn hd; clear hd))
   go_meet
   case rel => exact ⟨_, (!t1688), RS, H', ⟨by first | omega | exact Nat.le_refl _⟩, (MD HM).pick []⟩
  ·subst c6
   have H' := Aside0.mk H
   clear H
   go_wp2_with (first | ((with_reducible refine gC 42 rfl ?_); refine pC (some 12) rfl #[.slice A0 l0.length c0] rfl Try.func42 (impl_AsksOk.calls k _ _ l0 false _ (HM.came HR0.out) HC0.out A4.out) ?_; rintro e w5 ⟨rfl, hR⟩; refine ⟨_, rfl, ?_⟩; replace HM := HM.call hR; clear hR))
   go_meet
   case rel => exact ⟨_, (true), RS, H', ⟨by first | omega | exact Nat.le_refl _⟩, (MD HM).pick []⟩
 case rest =>
  clear HC3 HM
  obtain ⟨kq, x18_2, rfl, HA, HJ2, HM⟩ := hcut
  cases kq with
  | zero => exact absurd HA.out (by simp [impl_BestHits.j0])
  | succ kj2 =>
   have H := HA.out
   clear HA
   simp only [impl_BestHits.j0] at H
   go_upto_if 18 with (fail)
   replace H := IB H
   rcases H with ⟨c9, H⟩ | ⟨c9, H⟩
   ·subst c9
    obtain rfl := Option.some.inj H
    replace HM := HM.nl Kd.bool 4
    go_wp2
    go_ret
    exact ⟨_, ER, (MD HM).pick [0]⟩
   ·subst c9
    have H' := Aside0.mk H
    clear H
    go_wp2_with (first | ((with_reducible refine gN 19 rfl ?_); refine pL 19 Kd.bool 4 ([] : List Bool) [] (Reps.none _ _) HM rfl ?_; clear HM; intro v1690 w10 HM) | ((with_reducible refine gN 20 rfl ?_); refine pL 20 Kd.string 9 ([] : List ByteArray) [] (Reps.none _ _) HM rfl ?_; clear HM; intro v1693 w11 HM))
    go_loopg [5, 6, 23] kj2 (fun kq v5 v6 v23 w' => ∃ (x5_2 : List Bool) (x6_2 : List ByteArray) (x23_2 : Int), v23 = .int .i64 x23_2 ∧ Aside0 (impl_BestHits.l0 kq l0 a1 x5_2 x6_2 l0 (l0.length : Int) x23_2 = some r) ∧ Aside0 (kq ≤ kj2) ∧ Mem w [] w' [rowR Kd.bool 4 v5 x5_2, rowR Kd.string 9 v6 x6_2])
    case atStart => exact ⟨((([] : List Bool))), ((([] : List ByteArray))), (0), RS, H', ⟨Nat.le_refl _⟩, (MD HM).pick [0, 1]⟩
    case round =>
     clear H' HM
     obtain ⟨x5_2, x6_2, x23_2, rfl, HA, HK2, HM⟩ := hrel
     cases gk with
     | zero => exact absurd HA.out (by simp [impl_BestHits.l0])
     | succ k2 =>
      have H := HA.out
      clear HA
      simp only [impl_BestHits.l0] at H
      go_upto_if 24 with (fail)
      replace H := IT H; rcases H with ⟨c12, H⟩ | ⟨c12, H⟩
      ·have c12b0 : decide (x23_2 < (l0.length : Int)) = true := decide_eq_true c12
       clear c12
       (first | rw [c12b0] | (simp only [i64_w, i32_w]; rw [c12b0]) | skip)
       replace H := GD H; obtain ⟨c13, H⟩ := H
       have c13b0 : decide (0 ≤ x23_2) = true := decide_eq_true c13
       clear c13
       replace H := GD H; obtain ⟨c14, H⟩ := H
       have c14b0 : decide (x23_2 < (l0.length : Int)) = true := decide_eq_true c14
       clear c14
       replace H := BN H; obtain ⟨t1696, A15, H⟩ := H
       replace H := GD H; obtain ⟨c18, H⟩ := H
       have LMc18 := Aside0.mk c18
       clear c18
       replace H := BLt H; obtain ⟨y1697, Ny1697, H⟩ := H
       replace Ny1697 := Aside0.mk Ny1697
       have p1695 : 0 ≤ (x23_2 : Int) := of_decide_eq_true AS
       have q1695 : (x23_2 : Int) < (l0.length : Int) := of_decide_eq_true AS
       obtain ⟨ad1695, e1695, hx1695_0⟩ := Kd.at_string (HM.came HR0.out) x23_2 p1695 q1695
       cases e1695
       replace p1695 := eq_true p1695
       replace q1695 := eq_true q1695
       obtain ⟨Xo17, ko17, eo17⟩ := HM.rdR 1 rfl
       subst eo17
       go_upto_if 35 with (first | ((with_reducible refine gC 55 rfl ?_); refine pC (some 30) rfl #[.slice Xo17 x6_2.length ko17, .string (rdOf ByteArray.empty l0 x23_2)] rfl Try.func55 (slices_Contains_string_string.calls k2 _ _ x6_2 (rdOf ByteArray.empty l0 x23_2) t1696 _ (HM.CR 1 rfl).2.2 (HM.CR 1 rfl).2.1 A15.out) ?_; rintro e w16 ⟨rfl, hd⟩; refine ⟨_, rfl, ?_⟩; replace HM := HM.drawn hd; clear hd) | ((with_reducible refine gN 33 rfl ?_); refine pL 33 Kd.bool 4 [t1696] [.bool t1696] (Reps.one (show Kd.M Kd.bool _ _ _ t1696 [.bool t1696] from rfl) (Reps.none _ _)) HM rfl ?_; clear HM; intro v20 w19 HM; obtain ⟨Xv20, kv20, ev20⟩ := HM.rdR 2 rfl; subst ev20) | ((with_reducible refine gate_builtin (b := .append) (xs := #[.tmp 31, .tmp 33]) rfl ?_); refine pA 0 (.tmp 31) (.tmp 33) 26 4 Kd.bool u5 x5_2 [t1696] Xv20 ([t1696].length) kv20 HM rfl Try.underlying26 info4 rfl (HM.CR 2 rfl).2.2 (by have h_ := LMc18.out; simp only [List.length_singleton]; omega) ?_; clear HM; intro v1698 w21 HM; replace HM := HM.nm 0 rfl Ny1697.out))
       replace H := IB H
       rcases H with ⟨c22, H⟩ | ⟨c22, H⟩
       ·subst c22
        have H' := Aside0.mk H
        clear H
        go_wp2
        go_roundg k2
        case measure => have := HJ2.out; have := HK2.out; omega
        case rel => exact ⟨(y1697), (x6_2), (wrap64 (x23_2 + 1)), RS, H', ⟨by have := HJ2.out; have := HK2.out; omega⟩, (MD HM).pick [0, 1]⟩
       ·subst c22
        go_upto_if 39 with (fail)
        replace H := IT H; rcases H with ⟨c23, H⟩ | ⟨c23, H⟩
        ·have c23b0 : ((x6_2.length : Int) == a1) = true := beq_iff_eq.mpr c23
         have c23b1 : ((x6_2.length : Int) != a1) = false := bne_eq_false_iff_eq.mpr c23
         clear c23
         (first | rw [c23b0] | (simp only [i64_w, i32_w]; rw [c23b0]) | skip)
         replace H := BN H; obtain ⟨t1700, A24, H⟩ := H
         replace H := BN H; obtain ⟨t1701, A26, H⟩ := H
         replace H := GD H; obtain ⟨c28, H⟩ := H
         have LMc28 := Aside0.mk c28
         clear c28
         have H' := Aside0.mk H
         clear H
         go_wp2_with (first | ((with_reducible refine gC 88 rfl ?_); refine pC (some 44) rfl #[.slice (some ad1695) l0.length c0, .slice Xo17 x6_2.length ko17, .int .i64 (wrap64 (x23_2 + 1))] rfl Try.func88 (impl_BestGo.calls k2 _ _ l0 _ _ x6_2 (wrap64 (x23_2 + 1)) t1700 _ (HM.came HR0.out) HC0.out (HM.CR 1 rfl).2.2 (HM.CR 1 rfl).2.1 A24.out) ?_; rintro e w25 ⟨rfl, hR⟩; refine ⟨_, rfl, ?_⟩; replace HM := HM.call hR; clear hR; obtain ⟨P_, hq_, fin_⟩ := HM.man1R 1 rfl) | ((with_reducible refine gC 89 rfl ?_); refine pC (some 49) rfl #[.slice Xo17 x6_2.length ko17, .int .i64 t1700, .int .i64 (wrap64 (t1700 + 1))] rfl Try.func89 (slices_Delete_string_string.calls P_ (.slice Xo17 x6_2.length ko17) x6_2 t1700 (wrap64 (t1700 + 1)) t1701 (bare _) _ (bare_below _) hq_ A26.out) ?_; rintro e w27 ⟨v1702, rfl, hQ_, hB_, hK_⟩; refine ⟨_, rfl, ?_⟩; replace HM := fin_ _ _ _ hQ_ hB_ hK_; clear hQ_ hB_ hK_ hq_ fin_ P_) | ((with_reducible refine gN 52 rfl ?_); refine pL 52 Kd.string 9 [rdOf ByteArray.empty l0 x23_2] [.string (rdOf ByteArray.empty l0 x23_2)] (Reps.one (show Kd.M Kd.string _ _ _ (rdOf ByteArray.empty l0 x23_2) [.string (rdOf ByteArray.empty l0 x23_2)] from rfl) (Reps.none _ _)) HM rfl ?_; clear HM; intro v30 w29 HM; obtain ⟨Xv30, kv30, ev30⟩ := HM.rdR 3 rfl; subst ev30) | ((with_reducible refine gate_builtin (b := .append) (xs := #[.tmp 50, .tmp 52]) rfl ?_); refine pA 1 (.tmp 50) (.tmp 52) 24 9 Kd.string v1702 t1701 [rdOf ByteArray.empty l0 x23_2] Xv30 ([rdOf ByteArray.empty l0 x23_2].length) kv30 HM rfl Try.underlying24 info9 rfl (HM.CR 3 rfl).2.2 (by have h_ := LMc28.out; simp only [List.length_singleton]; omega) ?_; clear HM; intro v1705 w31 HM))
         go_roundg k2
         case measure => have := HJ2.out; have := HK2.out; omega
         case rel => exact ⟨(y1697), ((t1701 ++ [rdOf ByteArray.empty l0 x23_2])), (wrap64 (x23_2 + 1)), RS, H', ⟨by have := HJ2.out; have := HK2.out; omega⟩, (MD HM).pick [0, 1]⟩
        ·have c23b0 : ((x6_2.length : Int) == a1) = false := beq_eq_false_iff_ne.mpr c23
         have c23b1 : ((x6_2.length : Int) != a1) = true := bne_iff_ne.mpr c23
         (first | rw [c23b0] | (simp only [i64_w, i32_w]; rw [c23b0]) | skip)
         replace H := GD H; obtain ⟨c32, H⟩ := H
         have LMc32 := Aside0.mk c32
         clear c32
         have H' := Aside0.mk H
         clear H
         go_wp2_with (first | ((with_reducible refine gN 52 rfl ?_); refine pL 52 Kd.string 9 [rdOf ByteArray.empty l0 x23_2] [.string (rdOf ByteArray.empty l0 x23_2)] (Reps.one (show Kd.M Kd.string _ _ _ (rdOf ByteArray.empty l0 x23_2) [.string (rdOf ByteArray.empty l0 x23_2)] from rfl) (Reps.none _ _)) HM rfl ?_; clear HM; intro v34 w33 HM; obtain ⟨Xv34, kv34, ev34⟩ := HM.rdR 3 rfl; subst ev34) | ((with_reducible refine gate_builtin (b := .append) (xs := #[.tmp 50, .tmp 52]) rfl ?_); refine pA 1 (.tmp 50) (.tmp 52) 24 9 Kd.string (.slice Xo17 x6_2.length ko17) x6_2 [rdOf ByteArray.empty l0 x23_2] Xv34 ([rdOf ByteArray.empty l0 x23_2].length) kv34 HM rfl Try.underlying24 info9 rfl (HM.CR 3 rfl).2.2 (by have h_ := LMc32.out; simp only [List.length_singleton]; omega) ?_; clear HM; intro v1708 w35 HM))
         go_roundg k2
         case measure => have := HJ2.out; have := HK2.out; omega
         case rel => exact ⟨(y1697), ((x6_2 ++ [rdOf ByteArray.empty l0 x23_2])), (wrap64 (x23_2 + 1)), RS, H', ⟨by have := HJ2.out; have := HK2.out; omega⟩, (MD HM).pick [0, 1]⟩
      ·have c12b0 : decide (x23_2 < (l0.length : Int)) = false := decide_eq_false c12
       clear c12
       (first | rw [c12b0] | (simp only [i64_w, i32_w]; rw [c12b0]) | skip)
       obtain rfl := Option.some.inj H
       go_wp2
       go_ret
       exact ⟨_, ER, (MD HM).pick [0]⟩
def impl_BestMisses.f (k : Nat) (l0 : List ByteArray) (a1 : Int) : Option (Int) := (impl_BestHits.f k l0 a1).bind fun t1711 => ((impl_hitsIn.f k t1711).bind fun t1714 => (some (wrap64 ((t1711.length : Int) - t1714))))
set_option maxHeartbeats 8000000 in
set_option maxRecDepth 100000 in
theorem impl_BestMisses.calls (k : Nat) (A0 : Option Addr) (c0 : Nat) (l0 : List ByteArray) (a1 : Int) (r : Int) (w : World) (hr0 : Kd.C Kd.string w A0 l0.length l0) (hc0 : l0.length ≤ c0) (h : impl_BestMisses.f k l0 a1 = some r) :
  Calls Try.prog 37 #[.slice A0 l0.length c0, .int .i64 a1] w fun e w' => e = .returned (.int .i64 r) ∧ Mem w [] w' [] := by
 have HR0 := Aside0.mk hr0
 have HC0 := Aside0.mk hc0
 clear hr0 hc0
 have HM := Mem.nil w
 have H := h
 clear h
 unfold impl_BestMisses.f at H
 go_enter Try.func37, Try.ntmps37
 replace H := BN H; obtain ⟨t1711, A3, H⟩ := H
 replace H := BN H; obtain ⟨t1714, A6, H⟩ := H
 obtain rfl := Option.some.inj H
 go_wp2_with (first | ((with_reducible refine gC 66 rfl ?_); refine pC (some 8) rfl #[.slice A0 l0.length c0, .int .i64 a1] rfl Try.func66 (impl_BestHits.calls k _ _ l0 a1 t1711 _ (HM.came HR0.out) HC0.out A3.out) ?_; rintro e w4 ⟨v1712, rfl, hR⟩; refine ⟨_, rfl, ?_⟩; replace HM := HM.call hR; clear hR; obtain ⟨Xo5, ko5, eo5⟩ := HM.rdR 0 rfl; subst eo5) | ((with_reducible refine gC 52 rfl ?_); refine pC (some 12) rfl #[.slice Xo5 t1711.length ko5] rfl Try.func52 (impl_hitsIn.calls k _ _ t1711 t1714 _ (HM.CR 0 rfl).2.2 (HM.CR 0 rfl).2.1 A6.out) ?_; rintro e w7 ⟨rfl, hd⟩; refine ⟨_, rfl, ?_⟩; replace HM := HM.drawn hd; clear hd))
 go_ret
 exact ⟨ER, (MD HM).pick []⟩
def spec_l12Setup.f (s0_0 : List Int) (s0_1 : Int) (s0_2 : Int) : Option (Int × Int × Int × Int × Int) := (spec_l01Below.f s0_0 s0_1 s0_2 4).bind fun bt1740 => ((spec_l01Below.f s0_0 bt1740.2.1 bt1740.2.2 5).bind fun bt1743 => (if (wrap64 (1 + bt1740.1)) = 4 then ((spec_l01Below.f s0_0 bt1743.2.1 bt1743.2.2 (wrap64 (1 + bt1743.1))).bind fun bt1747 => (some (wrap64 (1 + bt1740.1), wrap64 (1 + bt1743.1), wrap64 (1 + bt1747.1), bt1747.2.1, bt1747.2.2))) else (some (wrap64 (1 + bt1740.1), wrap64 (1 + bt1743.1), 0, bt1743.2.1, bt1743.2.2))))
set_option maxHeartbeats 8000000 in
set_option maxRecDepth 100000 in
theorem spec_l12Setup.calls (g : Nat) (A0_0 : Option Addr) (c0_0 : Nat) (s0_0 : List Int) (s0_1 : Int) (s0_2 : Int) (r1 : Int) (r2 : Int) (r3 : Int) (r4 : Int) (r5 : Int) (w0 w : World) (F : List SP) (hrs0_0 : Kd.C (Kd.int .u8) w0 A0_0 s0_0.length s0_0) (hcs0_0 : s0_0.length ≤ c0_0) (hM : Mem w0 F w [box 81 g [.slice A0_0 s0_0.length c0_0, .int .i64 s0_1, .int .i64 s0_2]]) (h : spec_l12Setup.f s0_0 s0_1 s0_2 = some (r1, r2, r3, r4, r5)) :
  Calls Try.prog 67 #[.pointer (some ⟨g, 0, none⟩)] w fun e w' => e = .returned (.agg #[.int .i64 r1, .int .i64 r2, .int .i64 r3]) ∧ Mem w0 F w' [box 81 g [.slice A0_0 s0_0.length c0_0, .int .i64 r4, .int .i64 r5]] := by
 have hu28 := Try.underlying28
 have HRs0_0 := Aside0.mk hrs0_0
 have HCs0_0 := Aside0.mk hcs0_0
 clear hrs0_0 hcs0_0
 have HM := hM
 clear hM
 have H := h
 clear h
 unfold spec_l12Setup.f at H
 go_enter Try.func67, Try.ntmps67
 replace H := BN H; obtain ⟨⟨t1740, t1741, t1742⟩, A3, H⟩ := H
 replace H := BN H; obtain ⟨⟨t1743, t1744, t1745⟩, A5, H⟩ := H
 go_upto_if 13 with (first | ((with_reducible refine gN 2 rfl ?_); refine pB 2 28 [.int .i64 0, .int .i64 0, .int .i64 0] HM rfl ?_; clear HM; intro gb1739 w2 HM) | ((with_reducible refine gC 58 rfl ?_); refine pC (some 5) rfl #[.pointer (some ⟨g, 0, none⟩), .int .i64 4] rfl Try.func58 (spec_l01Below.calls g A0_0 c0_0 s0_0 s0_1 s0_2 4 t1740 t1741 t1742 _ _ _ HRs0_0.out HCs0_0.out (HM.focus [1] [0]) A3.out) ?_; rintro e w4 ⟨rfl, hR⟩; refine ⟨_, rfl, ?_⟩; replace HM := nzM hR.unfocus; clear hR) | ((with_reducible refine gC 58 rfl ?_); refine pC (some 8) rfl #[.pointer (some ⟨g, 0, none⟩), .int .i64 5] rfl Try.func58 (spec_l01Below.calls g A0_0 c0_0 s0_0 t1741 t1742 5 t1743 t1744 t1745 _ _ _ HRs0_0.out HCs0_0.out (HM.focus [0] [1]) A5.out) ?_; rintro e w6 ⟨rfl, hR⟩; refine ⟨_, rfl, ?_⟩; replace HM := nzM hR.unfocus; clear hR) | ((with_reducible refine gN 3 rfl ?_); refine pB 3 28 [.int .i64 0, .int .i64 0, .int .i64 0] HM rfl ?_; clear HM; intro gb1746 w7 HM) | ((with_reducible refine gS 3 rfl ?_); refine pS 2 3 0 [.int .i64 (wrap64 (1 + t1740)), .int .i64 (wrap64 (1 + t1743)), .int .i64 0] HM rfl rfl ?_; clear HM; intro w8 HM; obtain ⟨z9_0, z9_1, z9_2, Z9_0, Z9_1, Z9_2⟩ := bk3 (HM.bx 2 rfl)))
 replace HM := nzM HM
 replace H := IT H; rcases H with ⟨c10, H⟩ | ⟨c10, H⟩
 ·have c10b0 : ((wrap64 (1 + t1740)) == 4) = true := beq_iff_eq.mpr c10
  have c10b1 : ((wrap64 (1 + t1740)) != 4) = false := bne_eq_false_iff_eq.mpr c10
  clear c10
  (first | rw [c10b0] | (simp only [i64_w, i32_w]; rw [c10b0]) | skip)
  replace H := BN H; obtain ⟨⟨t1747, t1748, t1749⟩, A11, H⟩ := H
  simp only [Option.some.injEq, Prod.mk.injEq] at H
  obtain ⟨rfl, rfl, rfl, rfl, rfl⟩ := H
  go_wp2_with (first | ((with_reducible refine gC 58 rfl ?_); refine pC (some 17) rfl #[.pointer (some ⟨g, 0, none⟩), .int .i64 (wrap64 (1 + t1743))] rfl Try.func58 (spec_l01Below.calls g A0_0 c0_0 s0_0 t1744 t1745 (wrap64 (1 + t1743)) t1747 t1748 t1749 _ _ _ HRs0_0.out HCs0_0.out (HM.focus [0, 2] [1]) A11.out) ?_; rintro e w12 ⟨rfl, hR⟩; refine ⟨_, rfl, ?_⟩; replace HM := nzM hR.unfocus; clear hR) | ((with_reducible refine gS 19 rfl ?_); refine pS 1 19 2 [.int .i64 (wrap64 (1 + t1747))] HM rfl rfl ?_; clear HM; intro w13 HM; obtain ⟨z14_0, z14_1, z14_2, Z14_0, Z14_1, Z14_2⟩ := bk3 (HM.bx 1 rfl)) | ((with_reducible refine gS 2 rfl ?_); refine pS 0 2 0 [.int .i64 (wrap64 (1 + t1740)), .int .i64 (wrap64 (1 + t1743)), .int .i64 (wrap64 (1 + t1747))] HM rfl rfl ?_; clear HM; intro w15 HM))
  refine bodyPost_ret (results_cell_row rfl _ _ gb1739 28 #[.int .i64 (wrap64 (1 + t1740)), .int .i64 (wrap64 (1 + t1743)), .int .i64 (wrap64 (1 + t1747))] (0, 0) _ rfl (HM.bx 0 rfl) Try.underlying28 rfl (by kernel_rfl)) rfl ?_
  exact ⟨ER, (MD HM).pick [2]⟩
 ·have c10b0 : ((wrap64 (1 + t1740)) == 4) = false := beq_eq_false_iff_ne.mpr c10
  have c10b1 : ((wrap64 (1 + t1740)) != 4) = true := bne_iff_ne.mpr c10
  (first | rw [c10b0] | (simp only [i64_w, i32_w]; rw [c10b0]) | skip)
  simp only [Option.some.injEq, Prod.mk.injEq] at H
  obtain ⟨rfl, rfl, rfl, rfl, rfl⟩ := H
  go_wp2_with (first | ((with_reducible refine gS 2 rfl ?_); refine pS 0 2 0 [.int .i64 (wrap64 (1 + t1740)), .int .i64 (wrap64 (1 + t1743)), .int .i64 0] HM rfl rfl ?_; clear HM; intro w16 HM))
  refine bodyPost_ret (results_cell_row rfl _ _ gb1739 28 #[.int .i64 (wrap64 (1 + t1740)), .int .i64 (wrap64 (1 + t1743)), .int .i64 0] (0, 0) _ rfl (HM.bx 0 rfl) Try.underlying28 rfl (by kernel_rfl)) rfl ?_
  exact ⟨ER, (MD HM).pick [1]⟩
def spec_MakeSetup.f (k : Nat) (l0 : List Int) : Option (Int × Int × Int) := (spec_l01New.f k l0).bind fun bt1751 => ((spec_l12Setup.f bt1751.1 bt1751.2.1 (wrap64 (bt1751.2.2 + 23))).bind fun bt1755 => (some (bt1755.1, bt1755.2.1, bt1755.2.2.1)))
set_option maxHeartbeats 8000000 in
set_option maxRecDepth 100000 in
theorem spec_MakeSetup.calls (k : Nat) (A0 : Option Addr) (c0 : Nat) (l0 : List Int) (r1 : Int) (r2 : Int) (r3 : Int) (w : World) (hr0 : Kd.C (Kd.int .u8) w A0 l0.length l0) (hc0 : l0.length ≤ c0) (h : spec_MakeSetup.f k l0 = some (r1, r2, r3)) :
  Calls Try.prog 38 #[.slice A0 l0.length c0] w fun e w' => e = .returned (.agg #[.int .i64 r1, .int .i64 r2, .int .i64 r3]) ∧ Mem w [] w' [] := by
 have hu28 := Try.underlying28
 have HR0 := Aside0.mk hr0
 have HC0 := Aside0.mk hc0
 clear hr0 hc0
 have HM := Mem.nil w
 have H := h
 clear h
 unfold spec_MakeSetup.f at H
 go_enter Try.func38, Try.ntmps38
 replace H := BN H; obtain ⟨⟨t1751, t1752, t1753⟩, A3, H⟩ := H
 replace H := BN H; obtain ⟨⟨t1755, t1756, t1757, t1758, t1759⟩, A8, H⟩ := H
 simp only [Option.some.injEq, Prod.mk.injEq] at H
 obtain ⟨rfl, rfl, rfl⟩ := H
 go_wp2_with (first | ((with_reducible refine gN 2 rfl ?_); refine pB 2 28 [.int .i64 0, .int .i64 0, .int .i64 0] HM rfl ?_; clear HM; intro gb1750 w2 HM) | ((with_reducible refine gC 56 rfl ?_); refine pC (some 6) rfl #[.slice A0 l0.length c0] rfl Try.func56 (spec_l01New.calls k _ _ l0 t1751 t1752 t1753 _ _ HM.bel HR0.out HC0.out A3.out) ?_; rintro e w4 ⟨gb1754, Xn5, kn5, rfl, hR, hRn5, hCn5⟩; refine ⟨_, rfl, ?_⟩; have HRn5 := Aside0.mk hRn5; have HCn5 := Aside0.mk hCn5; clear hRn5 hCn5; replace HM := HM.call hR; clear hR; obtain ⟨z6_0, z6_1, z6_2, Z6_0, Z6_1, Z6_2⟩ := bk3 (HM.bx 1 rfl)) | ((with_reducible refine gS 14 rfl ?_); refine pS 1 14 2 [.int .i64 (wrap64 (t1753 + 23))] HM rfl rfl ?_; clear HM; intro w7 HM) | ((with_reducible refine gC 67 rfl ?_); refine pC (some 16) rfl #[.pointer (some ⟨gb1754, 0, none⟩)] rfl Try.func67 (spec_l12Setup.calls gb1754 Xn5 kn5 t1751 t1752 (wrap64 (t1753 + 23)) t1755 t1756 t1757 t1758 t1759 _ _ _ HRn5.out HCn5.out (HM.focus [0] [1]) A8.out) ?_; rintro e w9 ⟨rfl, hR⟩; refine ⟨_, rfl, ?_⟩; replace HM := nzM hR.unfocus; clear hR) | ((with_reducible refine gN 4 rfl ?_); refine pB 4 28 [.int .i64 0, .int .i64 0, .int .i64 0] HM rfl ?_; clear HM; intro gb1760 w10 HM) | ((with_reducible refine gS 4 rfl ?_); refine pS 2 4 0 [.int .i64 t1755, .int .i64 t1756, .int .i64 t1757] HM rfl rfl ?_; clear HM; intro w11 HM; obtain ⟨z12_0, z12_1, z12_2, Z12_0, Z12_1, Z12_2⟩ := bk3 (HM.bx 2 rfl)) | ((with_reducible refine gS 2 rfl ?_); refine pS 0 2 0 [.int .i64 t1755, .int .i64 t1756, .int .i64 t1757] HM rfl rfl ?_; clear HM; intro w13 HM))
 refine bodyPost_ret (results_cell_row rfl _ _ gb1750 28 #[.int .i64 t1755, .int .i64 t1756, .int .i64 t1757] (0, 0) _ rfl (HM.bx 0 rfl) Try.underlying28 rfl (by kernel_rfl)) rfl ?_
 exact ⟨ER, (MD HM).pick []⟩
def laws_FnNone.f (k : Nat) (l0 : List Int) : Option (Bool) := if (l0.length : Int) > 1048576 then (some true) else ((spec_MakeAsks.f k l0 24).bind fun t1811 => ((spec_MakeSetup.f k l0).bind fun bt1814 => ((impl_CountOf.f k bt1814.1 bt1814.2.1 bt1814.2.2 t1811).bind fun bt1818 => ((impl_BestMisses.f k t1811 bt1814.2.1).bind fun t1823 => ((impl_Distinct.f k t1811).bind fun t1824 => ((impl_SetupOk.f k bt1814.1 bt1814.2.1 bt1814.2.2).bind fun t1827 => (if t1827 = true then ((impl_AsksOk.f k t1811).bind fun t1828 => (if t1828 = true then (if bt1818.1 = (t1811.length : Int) then (if bt1818.2.2.1 ≥ t1823 then (if t1823 ≥ (t1824.length : Int) then ((laws_less.f (decide ((t1811.length : Int) > 0))).bind fun t1829 => (some (decide ((t1824.length : Int) ≥ t1829)))) else (none)) else (none)) else (none)) else (none))) else (none))))))))
set_option maxHeartbeats 8000000 in
set_option maxRecDepth 100000 in
theorem laws_FnNone.calls (k : Nat) (A0 : Option Addr) (c0 : Nat) (l0 : List Int) (r : Bool) (w : World) (hr0 : Kd.C (Kd.int .u8) w A0 l0.length l0) (hc0 : l0.length ≤ c0) (h : laws_FnNone.f k l0 = some r) :
  Calls Try.prog 9 #[.slice A0 l0.length c0] w fun e w' => e = .returned (.bool r) ∧ Below w.heap.size w w' := by
 have hu28 := Try.underlying28
 have hu36 := Try.underlying36
 have HR0 := Aside0.mk hr0
 have HC0 := Aside0.mk hc0
 clear hr0 hc0
 have HM := Mem.nil w
 have H := h
 clear h
 unfold laws_FnNone.f at H
 go_enter Try.func9, Try.ntmps9
 go_upto_if 10 with (fail)
 replace H := IT H; rcases H with ⟨c2, H⟩ | ⟨c2, H⟩
 ·replace c2 : (l0.length : Int) > 1048576 := c2
  have c2b0 : decide (1048576 < (l0.length : Int)) = true := decide_eq_true c2
  have c2b1 : decide (1048576 < l0.length) = true := decide_eq_true (by omega)
  have c2b9 : decide (1048576 < l0.length) = true := decide_eq_true (by omega)
  clear c2
  (first | rw [c2b0] | rw [c2b9] | (simp only [i64_w, i32_w]; rw [c2b0]) | skip)
  obtain rfl := Option.some.inj H
  go_wp2
  go_ret
  exact ⟨ER, HM.bel⟩
 ·replace c2 : ¬ ((l0.length : Int) > 1048576) := c2
  have c2b0 : decide (1048576 < (l0.length : Int)) = false := decide_eq_false c2
  have c2b1 : decide (1048576 < l0.length) = false := decide_eq_false (by omega)
  have c2b9 : decide (1048576 < l0.length) = false := decide_eq_false (by omega)
  clear c2
  (first | rw [c2b0] | rw [c2b9] | (simp only [i64_w, i32_w]; rw [c2b0]) | skip)
  replace H := BN H; obtain ⟨t1811, A3, H⟩ := H
  replace H := BN H; obtain ⟨⟨t1814, t1815, t1816⟩, A5, H⟩ := H
  replace H := BN H; obtain ⟨⟨t1818, t1819, t1820, t1821⟩, A10, H⟩ := H
  replace H := BN H; obtain ⟨t1823, A16, H⟩ := H
  replace H := BN H; obtain ⟨t1824, A18, H⟩ := H
  replace H := BN H; obtain ⟨t1827, A22, H⟩ := H
  replace H := GD H
  obtain ⟨c24, H⟩ := H
  subst c24
  replace H := BN H; obtain ⟨t1828, A25, H⟩ := H
  replace H := GD H
  obtain ⟨c27, H⟩ := H
  subst c27
  replace H := GD H; obtain ⟨c29, H⟩ := H
  have c29b0 : (t1818 == (t1811.length : Int)) = true := beq_iff_eq.mpr c29
  have c29b1 : (t1818 != (t1811.length : Int)) = false := bne_eq_false_iff_eq.mpr c29
  clear c29
  replace H := GD H; obtain ⟨c30, H⟩ := H
  have c30b0 : decide (t1823 ≤ t1820) = true := decide_eq_true c30
  clear c30
  replace H := GD H; obtain ⟨c31, H⟩ := H
  have c31b0 : decide ((t1824.length : Int) ≤ t1823) = true := decide_eq_true c31
  clear c31
  replace H := BN H; obtain ⟨t1829, A32, H⟩ := H
  obtain rfl := Option.some.inj H
  go_wp2_with (first | ((with_reducible refine gC 28 rfl ?_); refine pC (some 12) rfl #[.slice A0 l0.length c0, .int .i64 24] rfl Try.func28 (spec_MakeAsks.calls k _ _ l0 24 t1811 _ (HM.came HR0.out) HC0.out A3.out) ?_; rintro e w4 ⟨v1812, rfl, hR⟩; refine ⟨_, rfl, ?_⟩; replace HM := HM.call hR; clear hR) | ((with_reducible refine gC 38 rfl ?_); refine pC (some 14) rfl #[.slice A0 l0.length c0] rfl Try.func38 (spec_MakeSetup.calls k _ _ l0 t1814 t1815 t1816 _ (HM.came HR0.out) HC0.out A5.out) ?_; rintro e w6 ⟨rfl, hR⟩; refine ⟨_, rfl, ?_⟩; replace HM := HM.call hR; clear hR) | ((with_reducible refine gN 4 rfl ?_); refine pB 4 28 [.int .i64 0, .int .i64 0, .int .i64 0] HM rfl ?_; clear HM; intro gb1817 w7 HM) | ((with_reducible refine gS 4 rfl ?_); refine pS 1 4 0 [.int .i64 t1814, .int .i64 t1815, .int .i64 t1816] HM rfl rfl ?_; clear HM; intro w8 HM; obtain ⟨z9_0, z9_1, z9_2, Z9_0, Z9_1, Z9_2⟩ := bk3 (HM.bx 1 rfl); obtain ⟨Xo12, ko12, eo12⟩ := HM.rdR 0 rfl; subst eo12) | ((with_reducible refine gC 22 rfl ?_); refine pC (some 17) rfl #[.agg #[.int .i64 t1814, .int .i64 t1815, .int .i64 t1816], .slice Xo12 t1811.length ko12] rfl Try.func22 (impl_CountOf.calls k t1814 t1815 t1816 _ _ t1811 t1818 t1819 t1820 t1821 _ (HM.CR 0 rfl).2.2 (HM.CR 0 rfl).2.1 A10.out) ?_; rintro e w11 ⟨rfl, hR⟩; refine ⟨_, rfl, ?_⟩; replace HM := HM.call hR; clear hR) | ((with_reducible refine gN 5 rfl ?_); refine pB 5 36 [.int .i64 0, .int .i64 0, .int .i64 0, .int .i64 0] HM rfl ?_; clear HM; intro gb1822 w13 HM) | ((with_reducible refine gS 5 rfl ?_); refine pS 2 5 0 [.int .i64 t1818, .int .i64 t1819, .int .i64 t1820, .int .i64 t1821] HM rfl rfl ?_; clear HM; intro w14 HM; obtain ⟨z15_0, z15_1, z15_2, Z15_0, Z15_1, Z15_2⟩ := bk3 (HM.bx 1 rfl)) | ((with_reducible refine gC 37 rfl ?_); refine pC (some 21) rfl #[.slice Xo12 t1811.length ko12, .int .i64 t1815] rfl Try.func37 (impl_BestMisses.calls k _ _ t1811 t1815 t1823 _ (HM.CR 0 rfl).2.2 (HM.CR 0 rfl).2.1 A16.out) ?_; rintro e w17 ⟨rfl, hR⟩; refine ⟨_, rfl, ?_⟩; replace HM := HM.call hR; clear hR) | ((with_reducible refine gC 27 rfl ?_); refine pC (some 23) rfl #[.slice Xo12 t1811.length ko12] rfl Try.func27 (impl_Distinct.calls k _ _ t1811 t1824 _ (HM.CR 0 rfl).2.2 (HM.CR 0 rfl).2.1 A18.out) ?_; rintro e w19 ⟨v1825, rfl, hR⟩; refine ⟨_, rfl, ?_⟩; replace HM := HM.call hR; clear hR; obtain ⟨Xo20, ko20, eo20⟩ := HM.rdR 3 rfl; subst eo20; obtain ⟨z21_0, z21_1, z21_2, Z21_0, Z21_1, Z21_2⟩ := bk3 (HM.bx 1 rfl)) | ((with_reducible refine gC 39 rfl ?_); refine pC (some 26) rfl #[.agg #[.int .i64 t1814, .int .i64 t1815, .int .i64 t1816]] rfl Try.func39 (impl_SetupOk.calls k t1814 t1815 t1816 true _ A22.out) ?_; rintro e w23 ⟨rfl, hR⟩; refine ⟨_, rfl, ?_⟩; replace HM := HM.call hR; clear hR) | ((with_reducible refine gC 42 rfl ?_); refine pC (some 29) rfl #[.slice Xo12 t1811.length ko12] rfl Try.func42 (impl_AsksOk.calls k _ _ t1811 true _ (HM.CR 0 rfl).2.2 (HM.CR 0 rfl).2.1 A25.out) ?_; rintro e w26 ⟨rfl, hR⟩; refine ⟨_, rfl, ?_⟩; replace HM := HM.call hR; clear hR; obtain ⟨z28_0, z28_1, z28_2, z28_3, Z28_0, Z28_1, Z28_2, Z28_3⟩ := bk4 (HM.bx 2 rfl)) | ((with_reducible refine gC 31 rfl ?_); refine pC (some 54) rfl #[.bool (decide ((t1811.length : Int) > 0))] rfl Try.func31 (laws_less.calls (decide ((t1811.length : Int) > 0)) t1829 _ A32.out) ?_ (hargs := by (try simp only [List.map_toArray, List.map_cons, List.map_nil]); first | done | rfl | (show (#[.bool (decide (0 < t1811.length))] : Array Value) = _; simp)); rintro e w33 ⟨rfl, hd⟩; refine ⟨_, rfl, ?_⟩; replace HM := HM.drawn hd; clear hd))
  go_ret
  exact ⟨ER, HM.bel⟩
/-- A state of type 101 at block g of W; what its slices lead to came in by w0. -/
def IsS101 (w0 W : World) (g : Nat) (f0 : Int) (f1 : Int) (f2 : List (S76)) (f3 : Int) (f4 : Int) (f5 : List (S76)) (f6 : List (S76)) (f7 : List Int) : Prop := ∃ A2 c2, ∃ A5 c5, ∃ A6 c6, ∃ A7 c7, W.heap[g]? = some (.cells #[.int .i64 f0, .int .i64 f1, .slice A2 f2.length c2, .int .i64 f3, .int .i64 f4, .slice A5 f5.length c5, .slice A6 f6.length c6, .slice A7 f7.length c7] 101 (0, 0)) ∧ w0.heap.size ≤ g ∧ Kd.C k76 w0 A2 f2.length f2 ∧ Kd.C k76 w0 A5 f5.length f5 ∧ Kd.C k76 w0 A6 f6.length f6 ∧ Kd.C (Kd.int .i64) w0 A7 f7.length f7
theorem IsS101.grown {w0 W : World} {g : Nat} {f0 : Int} {f1 : Int} {f2 : List (S76)} {f3 : Int} {f4 : Int} {f5 : List (S76)} {f6 : List (S76)} {f7 : List Int} {W1 : World} {row : Option Nat} (h : IsS101 w0 W g f0 f1 f2 f3 f4 f5 f6 f7) (hw : W.grownBy W1 row) (hne : some g ≠ row) : IsS101 w0 W1 g f0 f1 f2 f3 f4 f5 f6 f7 := by
 obtain ⟨A2, c2, A5, c5, A6, c6, A7, c7, hb, hg, hr2, hr5, hr6, hr7⟩ := h
 exact ⟨A2, c2, A5, c5, A6, c6, A7, c7, blk_grown hb hw hne, hg, hr2, hr5, hr6, hr7⟩
theorem IsS101.kept {w0 W : World} {g : Nat} {f0 : Int} {f1 : Int} {f2 : List (S76)} {f3 : Int} {f4 : Int} {f5 : List (S76)} {f6 : List (S76)} {f7 : List Int} {W1 : World} {S : Nat → Prop} (h : IsS101 w0 W g f0 f1 f2 f3 f4 f5 f6 f7) (hk : Kept W W1 S) (hne : ¬ S g) : IsS101 w0 W1 g f0 f1 f2 f3 f4 f5 f6 f7 := by
 obtain ⟨A2, c2, A5, c5, A6, c6, A7, c7, hb, hg, hr2, hr5, hr6, hr7⟩ := h
 exact ⟨A2, c2, A5, c5, A6, c6, A7, c7, blk_kept hb hk hne, hg, hr2, hr5, hr6, hr7⟩
theorem IsS101.below {w0 W : World} {g : Nat} {f0 : Int} {f1 : Int} {f2 : List (S76)} {f3 : Int} {f4 : Int} {f5 : List (S76)} {f6 : List (S76)} {f7 : List Int} {W1 : World} (h : IsS101 w0 W g f0 f1 f2 f3 f4 f5 f6 f7) (hw : Below W.heap.size W W1) : IsS101 w0 W1 g f0 f1 f2 f3 f4 f5 f6 f7 := h.grown (grown_of_below hw none) (by simp)
theorem IsS101.alloc {w0 W : World} {g : Nat} {f0 : Int} {f1 : Int} {f2 : List (S76)} {f3 : Int} {f4 : Int} {f5 : List (S76)} {f6 : List (S76)} {f7 : List Int} (h : IsS101 w0 W g f0 f1 f2 f3 f4 f5 f6 f7) (o : Obj) : IsS101 w0 (W.alloc o) g f0 f1 f2 f3 f4 f5 f6 f7 := h.below (below_alloc (Below.refl _ _) o)
theorem IsS101.drewN {w0 W : World} {g : Nat} {f0 : Int} {f1 : Int} {f2 : List (S76)} {f3 : Int} {f4 : Int} {f5 : List (S76)} {f6 : List (S76)} {f7 : List Int} (h : IsS101 w0 W g f0 f1 f2 f3 f4 f5 f6 f7) (m : Nat) : IsS101 w0 (W.drewN m) g f0 f1 f2 f3 f4 f5 f6 f7 := h
theorem IsS101.drew {w0 W : World} {g : Nat} {f0 : Int} {f1 : Int} {f2 : List (S76)} {f3 : Int} {f4 : Int} {f5 : List (S76)} {f6 : List (S76)} {f7 : List Int} (h : IsS101 w0 W g f0 f1 f2 f3 f4 f5 f6 f7) : IsS101 w0 W.drew g f0 f1 f2 f3 f4 f5 f6 f7 := h
theorem IsS101.at_ {w0 W : World} {g : Nat} {f0 : Int} {f1 : Int} {f2 : List (S76)} {f3 : Int} {f4 : Int} {f5 : List (S76)} {f6 : List (S76)} {f7 : List Int} {w' : World} {m : Nat} (hq : W.drewN m = w') (h : IsS101 w0 W g f0 f1 f2 f3 f4 f5 f6 f7) : IsS101 w0 w' g f0 f1 f2 f3 f4 f5 f6 f7 := by subst hq; exact IsS101.drewN h m
theorem IsS101.apart {w0 W : World} {g : Nat} {f0 : Int} {f1 : Int} {f2 : List (S76)} {f3 : Int} {f4 : Int} {f5 : List (S76)} {f6 : List (S76)} {f7 : List Int} {α : Type} {d : Kd α} {e : Nat} {base : Nat} {ok : Nat → Prop} {v : Value} {xs : List α} (h : IsS101 w0 W g f0 f1 f2 f3 f4 f5 f6 f7) (ho : d.R e W base ok v xs) (ht : ∀ q, q ∈ e :: d.E → q ≠ 101) : d.R e W base (fun k => ok k ∧ k ≠ g) v xs := by
 obtain ⟨A2, c2, A5, c5, A6, c6, A7, c7, hb, hg, hr2, hr5, hr6, hr7⟩ := h
 exact Kd.R_types ho hb ht
theorem IsS101.lt {w0 W : World} {g : Nat} {f0 : Int} {f1 : Int} {f2 : List (S76)} {f3 : Int} {f4 : Int} {f5 : List (S76)} {f6 : List (S76)} {f7 : List Int} (h : IsS101 w0 W g f0 f1 f2 f3 f4 f5 f6 f7) : g < W.heap.size := by
 obtain ⟨A2, c2, A5, c5, A6, c6, A7, c7, hb, hg, hr2, hr5, hr6, hr7⟩ := h
 exact blk_lt hb
end Go.Proofs.Ytanakbmhclpamaa.G
