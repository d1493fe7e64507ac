/- Part 4 of the claim FnExactMend, merged by pack.py (this session's program) out of: the print's words, cut to what is needed; texts that gen.py printed (it runs the kit's print in place); texts of this session. -/
import Derived.Test.YtnlnifpehndacaaKFnExactMend1
import Derived.Test.YtnlnifpehndacaaKFnExactMend2
import Derived.Test.YtnlnifpehndacaaKFnExactMend3
namespace Go.Proofs.Ytnlnifpehndacaa.Mm
end Go.Proofs.Ytnlnifpehndacaa.Mm
namespace Go.Proofs.Ytnlnifpehndacaa.Sh
end Go.Proofs.Ytnlnifpehndacaa.Sh
set_option maxHeartbeats 8000000
set_option maxRecDepth 100000
namespace Go.Proofs.Ytnlnifpehndacaa.G
open Go.RowKit Go.Proofs.YtnlnifpehndacaaW.PrintWords Go.Proofs.YtnlnifpehndacaaW.PrintLast Go.Proofs.YtnlnifpehndacaaW.PrintMore Go.Proofs.Ytnlnifpehndacaa.Sh
attribute [local go_sem] max2_int min2_int max_two min_two max_three min_three max_four min_four
set_option linter.unusedVariables false
set_option linter.unusedSimpArgs false
open Go.Proofs.Ytnlnifpehndacaa.Mm
def laws_szItemS.l0 : Nat → List (S99) → Int → Int → Option (Int)
 | 0, _, _, _ => none
 | k + 1, x0, x1, x5 => if x5 < (x0.length : Int) then (if 0 ≤ x5 then ((laws_szItem.f ((rd_T99 x0 x5).f0) ((rd_T99 x0 x5).f1) ((rd_T99 x0 x5).f2) x1).bind fun t727 => (if t727 < 0 then (some (-1)) else (laws_szItemS.l0 k x0 t727 (wrap64 (x5 + 1))))) else (none)) else (some x1)
def laws_szItemS.f (k : Nat) (l0 : List (S99)) (a1 : Int) : Option (Int) := if (wrap64 (a1 - (l0.length : Int))) < 0 then (some (-1)) else (laws_szItemS.l0 k l0 (wrap64 (a1 - (l0.length : Int))) 0)
theorem laws_szItemS.calls (k : Nat) (A0 : Option Addr) (c0 : Nat) (l0 : List (S99)) (a1 : Int) (r : Int) (w : World) (hr0 : Kd.C k99 w A0 l0.length l0) (hc0 : l0.length ≤ c0) (h : laws_szItemS.f k l0 a1 = some r) :
  Calls Try.prog 48 #[.slice A0 l0.length c0, .int .i64 a1] w fun e w' => e = .returned (.int .i64 r) ∧ Mem w [] w' [] := by
 have hu99 := Try.underlying99
 have HR0 := Aside0.mk hr0
 have HC0 := Aside0.mk hc0
 clear hr0 hc0
 have HM := Mem.nil w
 have H := h
 clear h
 unfold laws_szItemS.f at H
 go_enter Try.func48, Try.ntmps48
 go_upto_if 11 with (fail)
 replace H := IT H; rcases H with ⟨c3, H⟩ | ⟨c3, H⟩
 ·have c3b0 := decide_eq_true c3
  clear c3
  first|rw [c3b0]|(simp only [i64_w, i32_w]; rw [c3b0])|skip
  obtain rfl := Option.some.inj H
  go_wp2
  go_ret
  exact ⟨ER, (MD HM).pick []⟩
 ·have c3b0 := decide_eq_false c3
  clear c3
  first|rw [c3b0]|(simp only [i64_w, i32_w]; rw [c3b0])|skip
  have H' := Aside0.mk H
  clear H
  go_wp2
  go_loopg [1, 5] k (fun kq v1 v5 w' => ∃ (x1_1 : Int) (x5_1 : Int), v1 = .int .i64 x1_1 ∧ v5 = .int .i64 x5_1 ∧ Aside0 (laws_szItemS.l0 kq l0 x1_1 x5_1 = some r) ∧ Aside0 (kq ≤ k) ∧ Mem w [] w' [])
  case atStart => exact ⟨(wrap64 (a1 - (l0.length : Int))), (0), RS, RS, H', ⟨Nat.le_refl _⟩, (MD HM).pick []⟩
  case round =>
   clear H' HM
   obtain ⟨x1_1, x5_1, rfl, rfl, HA, HK1, HM⟩ := hrel
   cases gk with
   | zero => exact absurd HA.out (by simp [laws_szItemS.l0])
   | succ k1 =>
    have H := HA.out
    clear HA
    simp only [laws_szItemS.l0] at H
    go_upto_if 15 with (fail)
    replace H := IT H; rcases H with ⟨c4, H⟩ | ⟨c4, H⟩
    ·have c4b0 := decide_eq_true c4
     clear c4
     first|rw [c4b0]|(simp only [i64_w, i32_w]; rw [c4b0])|skip
     replace H := GD H; obtain ⟨c5, H⟩ := H
     have c5b0 := decide_eq_true c5
     clear c5
     replace H := BN H; obtain ⟨t727, A6, H⟩ := H
     have p726 : 0 ≤ (x5_1 : Int) := of_decide_eq_true AS
     have q726 : (x5_1 : Int) < (l0.length : Int) := of_decide_eq_true AS
     obtain ⟨ad726, e726, hx726_0, hx726_1, hx726_2⟩ := at_T99 (HM.came HR0.out) x5_1 p726 q726
     cases e726
     replace p726 := eq_true p726
     replace q726 := eq_true q726
     go_upto_if 25 with (first | ((with_reducible refine gC 85 rfl ?_); refine pC (some 23) rfl #[.agg #[.string ((rd_T99 l0 x5_1).f0), .string ((rd_T99 l0 x5_1).f1), .int .i64 ((rd_T99 l0 x5_1).f2)], .int .i64 x1_1] rfl Try.func85 (laws_szItem.calls ((rd_T99 l0 x5_1).f0) ((rd_T99 l0 x5_1).f1) ((rd_T99 l0 x5_1).f2) x1_1 t727 _ A6.out) ?_; rintro e w7 ⟨rfl, hR⟩; refine ⟨_, rfl, ?_⟩; replace HM := HM.call hR; clear hR))
     replace H := IT H; rcases H with ⟨c8, H⟩ | ⟨c8, H⟩
     ·have c8b0 := decide_eq_true c8
      clear c8
      first|rw [c8b0]|(simp only [i64_w, i32_w]; rw [c8b0])|skip
      obtain rfl := Option.some.inj H
      go_wp2
      go_ret
      exact ⟨ER, (MD HM).pick []⟩
     ·have c8b0 := decide_eq_false c8
      clear c8
      first|rw [c8b0]|(simp only [i64_w, i32_w]; rw [c8b0])|skip
      have H' := Aside0.mk H
      clear H
      go_wp2
      go_roundg k1
      case measure => have := HK1.out; omega
      case rel => exact ⟨(t727), (wrap64 (x5_1 + 1)), RS, RS, H', ⟨by have := HK1.out; omega⟩, (MD HM).pick []⟩
    ·have c4b0 := decide_eq_false c4
     clear c4
     first|rw [c4b0]|(simp only [i64_w, i32_w]; rw [c4b0])|skip
     obtain rfl := Option.some.inj H
     go_wp2
     go_ret
     exact ⟨ER, (MD HM).pick []⟩
end Go.Proofs.Ytnlnifpehndacaa.G

namespace Go.Proofs.Ytnlnifpehndacaa.G
open Go.RowKit Go.Proofs.YtnlnifpehndacaaW.PrintWords Go.Proofs.YtnlnifpehndacaaW.PrintLast Go.Proofs.YtnlnifpehndacaaW.PrintMore Go.Proofs.Ytnlnifpehndacaa.Sh
attribute [local go_sem] max2_int min2_int max_two min_two max_three min_three max_four min_four
set_option linter.unusedVariables false
set_option linter.unusedSimpArgs false
def laws_szIntS.f (l0 : List Int) (a1 : Int) : Option (Int) := if (wrap64 (a1 - (l0.length : Int))) < 0 then (some (-1)) else (some (wrap64 (a1 - (l0.length : Int))))
theorem laws_szIntS.calls (A0 : Option Addr) (c0 : Nat) (l0 : List Int) (a1 : Int) (r : Int) (w : World) (hr0 : Kd.C (Kd.int .i64) w A0 l0.length l0) (hc0 : l0.length ≤ c0) (h : laws_szIntS.f l0 a1 = some r) :
  Calls Try.prog 49 #[.slice A0 l0.length c0, .int .i64 a1] w fun e w' => e = .returned (.int .i64 r) ∧ Drawn0 w w' := by
 have HR0 := Aside0.mk hr0
 have HC0 := Aside0.mk hc0
 clear hr0 hc0
 have H : (if (wrap64 (a1 - (l0.length : Int))) < 0 then (some (-1)) else (some (wrap64 (a1 - (l0.length : Int))))) = some r := h
 clear h
 by_cases c3 : (wrap64 (a1 - (l0.length : Int))) < 0
 ·rw [if_pos c3] at H
  have c3b0 : decide ((wrap64 (a1 - (l0.length : Int))) < 0) = true := decide_eq_true c3
  clear c3
  obtain rfl := Option.some.inj H
  go_enter Try.func49, Try.ntmps49
  go_wp2
  go_ret
  exact ⟨by first | rfl | (simp; done) | (simp [*]; done), DR⟩
 ·rw [if_neg c3] at H
  have c3b0 : decide ((wrap64 (a1 - (l0.length : Int))) < 0) = false := decide_eq_false c3
  clear c3
  obtain rfl := Option.some.inj H
  go_enter Try.func49, Try.ntmps49
  go_wp2
  go_ret
  exact ⟨by first | rfl | (simp; done) | (simp [*]; done), DR⟩
end Go.Proofs.Ytnlnifpehndacaa.G

namespace Go.Proofs.Ytnlnifpehndacaa.G
open Go.RowKit Go.Proofs.YtnlnifpehndacaaW.PrintWords Go.Proofs.YtnlnifpehndacaaW.PrintLast Go.Proofs.YtnlnifpehndacaaW.PrintMore Go.Proofs.Ytnlnifpehndacaa.Sh
attribute [local go_sem] max2_int min2_int max_two min_two max_three min_three max_four min_four
set_option linter.unusedVariables false
set_option linter.unusedSimpArgs false
open Go.Proofs.Ytnlnifpehndacaa.Mm
def laws_szThree.f (k : Nat) (a0_0 : Int) (a0_1 : Int) (l0_2 : List (S99)) (l0_3 : List (S99)) (l0_4 : List Int) (a1 : Int) : Option (Int) := (laws_szItemS.f k l0_2 a1).bind fun t729 => (if t729 < 0 then (some (-1)) else ((laws_szItemS.f k l0_3 t729).bind fun t730 => (if t730 < 0 then (some (-1)) else ((laws_szIntS.f l0_4 t730).bind fun t731 => (if t731 < 0 then (some (-1)) else (some t731))))))
theorem laws_szThree.calls (k : Nat) (a0_0 : Int) (a0_1 : Int) (A0_2 : Option Addr) (c0_2 : Nat) (l0_2 : List (S99)) (A0_3 : Option Addr) (c0_3 : Nat) (l0_3 : List (S99)) (A0_4 : Option Addr) (c0_4 : Nat) (l0_4 : List Int) (a1 : Int) (r : Int) (w : World) (hr0_2 : Kd.C k99 w A0_2 l0_2.length l0_2) (hc0_2 : l0_2.length ≤ c0_2) (hr0_3 : Kd.C k99 w A0_3 l0_3.length l0_3) (hc0_3 : l0_3.length ≤ c0_3) (hr0_4 : Kd.C (Kd.int .i64) w A0_4 l0_4.length l0_4) (hc0_4 : l0_4.length ≤ c0_4) (h : laws_szThree.f k a0_0 a0_1 l0_2 l0_3 l0_4 a1 = some r) :
  Calls Try.prog 16 #[.agg #[.int .i64 a0_0, .int .i64 a0_1, .slice A0_2 l0_2.length c0_2, .slice A0_3 l0_3.length c0_3, .slice A0_4 l0_4.length c0_4], .int .i64 a1] w fun e w' => e = .returned (.int .i64 r) ∧ Mem w [] w' [] := by
 have hu42 := Try.underlying42
 have HR0_2 := Aside0.mk hr0_2
 have HC0_2 := Aside0.mk hc0_2
 clear hr0_2 hc0_2
 have HR0_3 := Aside0.mk hr0_3
 have HC0_3 := Aside0.mk hc0_3
 clear hr0_3 hc0_3
 have HR0_4 := Aside0.mk hr0_4
 have HC0_4 := Aside0.mk hc0_4
 clear hr0_4 hc0_4
 have HM := Mem.nil w
 have H := h
 clear h
 unfold laws_szThree.f at H
 go_enter Try.func16, Try.ntmps16
 replace H := BN H; obtain ⟨t729, A5, H⟩ := H
 go_upto_if 10 with (first | ((with_reducible refine gN 2 rfl ?_); refine pB 2 42 [.int .i64 a0_0, .int .i64 a0_1, .slice A0_2 l0_2.length c0_2, .slice A0_3 l0_3.length c0_3, .slice A0_4 l0_4.length c0_4] HM rfl ?_; clear HM; intro gb728 w3 HM; obtain ⟨_,_,_,_,_,_,_,_,_,_⟩ := bk5 (HM.bx 0 rfl)) | ((with_reducible refine gC 48 rfl ?_); refine pC (some 8) rfl #[.slice A0_2 l0_2.length c0_2, .int .i64 a1] rfl Try.func48 (laws_szItemS.calls k _ _ l0_2 a1 t729 _ (HM.came HR0_2.out) HC0_2.out A5.out) ?_; rintro e w6 ⟨rfl, hR⟩; refine ⟨_, rfl, ?_⟩; replace HM := HM.call hR; clear hR))
 replace HM := nzM HM
 replace H := IT H; rcases H with ⟨c7, H⟩ | ⟨c7, H⟩
 ·have c7b0 := decide_eq_true c7
  clear c7
  first|rw [c7b0]|(simp only [i64_w, i32_w]; rw [c7b0])|skip
  obtain rfl := Option.some.inj H
  go_wp2
  go_ret
  exact ⟨ER, (MD HM).pick []⟩
 ·have c7b0 := decide_eq_false c7
  clear c7
  first|rw [c7b0]|(simp only [i64_w, i32_w]; rw [c7b0])|skip
  replace H := BN H; obtain ⟨t730, A9, H⟩ := H
  obtain ⟨_,_,_,_,_,_,_,_,_,_⟩ := bk5 (HM.bx 0 rfl)
  go_upto_if 16 with (first | ((with_reducible refine gC 48 rfl ?_); refine pC (some 14) rfl #[.slice A0_3 l0_3.length c0_3, .int .i64 t729] rfl Try.func48 (laws_szItemS.calls k _ _ l0_3 t729 t730 _ (HM.came HR0_3.out) HC0_3.out A9.out) ?_; rintro e w10 ⟨rfl, hR⟩; refine ⟨_, rfl, ?_⟩; replace HM := HM.call hR; clear hR))
  replace H := IT H; rcases H with ⟨c11, H⟩ | ⟨c11, H⟩
  ·have c11b0 := decide_eq_true c11
   clear c11
   first|rw [c11b0]|(simp only [i64_w, i32_w]; rw [c11b0])|skip
   obtain rfl := Option.some.inj H
   go_wp2
   go_ret
   exact ⟨ER, (MD HM).pick []⟩
  ·have c11b0 := decide_eq_false c11
   clear c11
   first|rw [c11b0]|(simp only [i64_w, i32_w]; rw [c11b0])|skip
   replace H := BN H; obtain ⟨t731, A13, H⟩ := H
   obtain ⟨_,_,_,_,_,_,_,_,_,_⟩ := bk5 (HM.bx 0 rfl)
   go_upto_if 22 with (first | ((with_reducible refine gC 49 rfl ?_); refine pC (some 20) rfl #[.slice A0_4 l0_4.length c0_4, .int .i64 t730] rfl Try.func49 (laws_szIntS.calls _ _ l0_4 t730 t731 _ (HM.came HR0_4.out) HC0_4.out A13.out) ?_; rintro e w14 ⟨rfl, hd⟩; refine ⟨_, rfl, ?_⟩; replace HM := HM.drawn hd; clear hd))
   replace H := IT H; rcases H with ⟨c15, H⟩ | ⟨c15, H⟩
   ·have c15b0 := decide_eq_true c15
    clear c15
    first|rw [c15b0]|(simp only [i64_w, i32_w]; rw [c15b0])|skip
    obtain rfl := Option.some.inj H
    go_wp2
    go_ret
    exact ⟨ER, (MD HM).pick []⟩
   ·have c15b0 := decide_eq_false c15
    clear c15
    first|rw [c15b0]|(simp only [i64_w, i32_w]; rw [c15b0])|skip
    obtain rfl := Option.some.inj H
    go_wp2
    go_ret
    exact ⟨ER, (MD HM).pick []⟩
def laws_toItem.f (a0_0 : ByteArray) (a0_1 : ByteArray) (a0_2 : Int) : Option (ByteArray × ByteArray × Int) := some (a0_0, a0_1, a0_2)
theorem laws_toItem.calls (a0_0 : ByteArray) (a0_1 : ByteArray) (a0_2 : Int) (r1 : ByteArray) (r2 : ByteArray) (r3 : Int) (w : World)  (h : laws_toItem.f a0_0 a0_1 a0_2 = some (r1, r2, r3)) :
  Calls Try.prog 86 #[.agg #[.string a0_0, .string a0_1, .int .i64 a0_2]] w fun e w' => e = .returned (.agg #[.string r1, .string r2, .int .i64 r3]) ∧ Mem w [] w' [] := by
 have hu99 := Try.underlying99
 have hu76 := Try.underlying76
 have HM := Mem.nil w
 have H := h
 clear h
 unfold laws_toItem.f at H
 go_enter Try.func86, Try.ntmps86
 simp only [Option.some.injEq, Prod.mk.injEq] at H
 obtain ⟨rfl, rfl, rfl⟩ := H
 go_wp2_with (first | ((with_reducible refine gN 1 rfl ?_); refine pB 1 99 [.string a0_0, .string a0_1, .int .i64 a0_2] HM rfl ?_; clear HM; intro gb782 w2 HM) | ((with_reducible refine gN 2 rfl ?_); refine pB 2 76 [.string (⟨#[]⟩ : ByteArray), .string (⟨#[]⟩ : ByteArray), .int .i64 0] HM rfl ?_; clear HM; intro gb783 w3 HM) | ((with_reducible refine gN 3 rfl ?_); refine pB 3 76 [.string (⟨#[]⟩ : ByteArray), .string (⟨#[]⟩ : ByteArray), .int .i64 0] HM rfl ?_; clear HM; intro gb784 w4 HM; obtain ⟨_,_,_,_,_,_⟩ := bk3 (HM.bx 0 rfl)) | ((with_reducible refine gS 6 rfl ?_); refine pS 2 6 0 [.string a0_0] HM rfl rfl ?_; clear HM; intro w6 HM; obtain ⟨_,_,_,_,_,_⟩ := bk3 (HM.bx 0 rfl)) | ((with_reducible refine gS 9 rfl ?_); refine pS 2 9 1 [.string a0_1] HM rfl rfl ?_; clear HM; intro w8 HM; obtain ⟨_,_,_,_,_,_⟩ := bk3 (HM.bx 0 rfl)) | ((with_reducible refine gS 12 rfl ?_); refine pS 2 12 2 [.int .i64 a0_2] HM rfl rfl ?_; clear HM; intro w10 HM; obtain ⟨_,_,_,_,_,_⟩ := bk3 (HM.bx 2 rfl)) | ((with_reducible refine gS 2 rfl ?_); refine pS 1 2 0 [.string a0_0, .string a0_1, .int .i64 a0_2] HM rfl rfl ?_; clear HM; intro w12 HM))
 refine bodyPost_ret (results_cell_row rfl _ _ gb783 76 #[.string a0_0, .string a0_1, .int .i64 a0_2] (0, 0) _ rfl (HM.bx 1 rfl) Try.underlying76 rfl (by kernel_rfl)) rfl ?_
 exact ⟨ER, (MD HM).pick []⟩
def laws_toItemS.l0 : Nat → List (S99) → List (S76) → Int → Option ((List (S76)))
 | 0, _, _, _ => none
 | k + 1, x0, x3, x4 => if x4 < (x0.length : Int) then (if 0 ≤ x4 then ((laws_toItem.f ((rd_T99 x0 x4).f0) ((rd_T99 x0 x4).f1) ((rd_T99 x0 x4).f2)).bind fun bt789 => (if x4 < (x3.length : Int) then (laws_toItemS.l0 k x0 (x3.set (x4 : Int).toNat (⟨bt789.1, bt789.2.1, bt789.2.2⟩ : S76)) (wrap64 (x4 + 1))) else (none))) else (none)) else (some x3)
def laws_toItemS.f (k : Nat) (l0 : List (S99)) : Option ((List (S76))) := if 0 ≤ (l0.length : Int) then (if ((l0.length : Int) : Int).toNat ≤ 7036874417766 then (laws_toItemS.l0 k l0 (List.replicate ((l0.length : Int) : Int).toNat z76) 0) else (none)) else (none)
theorem laws_toItemS.calls (k : Nat) (A0 : Option Addr) (c0 : Nat) (l0 : List (S99)) (r : List (S76)) (w : World) (hr0 : Kd.C k99 w A0 l0.length l0) (hc0 : l0.length ≤ c0) (h : laws_toItemS.f k l0 = some r) :
  Calls Try.prog 51 #[.slice A0 l0.length c0] w fun e w' => ∃ v0_ : Value, e = .returned (v0_) ∧ Mem w [] w' [rowR k76 76 v0_ r] := by
 have hu99 := Try.underlying99
 have hu76 := Try.underlying76
 have HR0 := Aside0.mk hr0
 have HC0 := Aside0.mk hc0
 clear hr0 hc0
 have HM := Mem.nil w
 have H := h
 clear h
 unfold laws_toItemS.f at H
 go_enter Try.func51, Try.ntmps51
 replace H := GD H; obtain ⟨c2, H⟩ := H
 have c2b0 := eq_true c2
 have c2b1 : decide (0 ≤ (l0.length : Int)) = true := decide_eq_true c2
 clear c2
 replace H := GD H; obtain ⟨c3, H⟩ := H
 have c3b0 := eq_true c3
 have c3b1 : decide (((l0.length : Int) : Int).toNat ≤ 7036874417766) = true := decide_eq_true c3
 clear c3
 have H' := Aside0.mk H
 clear H
 go_wp2_with (first | ((with_reducible refine gN 7 rfl ?_); refine pM 7 k76 76 22 _ _ (l0.length : Int) (.agg #[(.string ⟨#[]⟩), (.string ⟨#[]⟩), (.int .i64 0)]) 40 z76 HM rfl Try.underlying22 info76 (of_decide_eq_true AS) (Nat.le_trans (Nat.mul_le_mul_right _ (of_decide_eq_true AS : (l0.length : Int).toNat ≤ 7036874417766)) (by omega)) (hzero := (k76_mkM _ _ _ z76)) ?_; clear HM; intro v786 w4 HM))
 go_loopg [4] k (fun kq v4 w' => ∃ (x3_1 : List (S76)) (x4_1 : Int), v4 = .int .i64 x4_1 ∧ Aside0 (laws_toItemS.l0 kq l0 x3_1 x4_1 = some r) ∧ Aside0 (kq ≤ k) ∧ Mem w [] w' [rowR k76 76 v786 x3_1])
 case atStart => exact ⟨((List.replicate ((l0.length : Int) : Int).toNat z76)), (0), RS, H', ⟨Nat.le_refl _⟩, (MD HM).pick [0]⟩
 case round =>
  clear H' HM
  obtain ⟨x3_1, x4_1, rfl, HA, HK1, HM⟩ := hrel
  cases gk with
  | zero => exact absurd HA.out (by simp [laws_toItemS.l0])
  | succ k1 =>
   have H := HA.out
   clear HA
   simp only [laws_toItemS.l0] at H
   go_upto_if 11 with (fail)
   replace H := IT H; rcases H with ⟨c5, H⟩ | ⟨c5, H⟩
   ·have c5b0 := decide_eq_true c5
    clear c5
    first|rw [c5b0]|(simp only [i64_w, i32_w]; rw [c5b0])|skip
    replace H := GD H; obtain ⟨c6, H⟩ := H
    have c6b0 := decide_eq_true c6
    clear c6
    replace H := BN H; obtain ⟨⟨t789, t790, t791⟩, A7, H⟩ := H
    replace H := GD H; obtain ⟨c9, H⟩ := H
    have c9b0 : decide (x4_1 < (x3_1.length : Int)) = true := decide_eq_true c9
    clear c9
    have H' := Aside0.mk H
    clear H
    have p788 : 0 ≤ (x4_1 : Int) := of_decide_eq_true AS
    have q788 : (x4_1 : Int) < (l0.length : Int) := of_decide_eq_true AS
    obtain ⟨ad788, e788, hx788_0, hx788_1, hx788_2⟩ := at_T99 (HM.came HR0.out) x4_1 p788 q788
    cases e788
    replace p788 := eq_true p788
    replace q788 := eq_true q788
    go_wp2_with (first | ((with_reducible refine gC 86 rfl ?_); refine pC (some 20) rfl #[.agg #[.string ((rd_T99 l0 x4_1).f0), .string ((rd_T99 l0 x4_1).f1), .int .i64 ((rd_T99 l0 x4_1).f2)]] rfl Try.func86 (laws_toItem.calls ((rd_T99 l0 x4_1).f0) ((rd_T99 l0 x4_1).f1) ((rd_T99 l0 x4_1).f2) t789 t790 t791 _ A7.out) ?_; rintro e w8 ⟨rfl, hR⟩; refine ⟨_, rfl, ?_⟩; replace HM := HM.call hR; clear hR; obtain ⟨Xo11, ko11, rfl⟩ := HM.rdR 0 rfl; have p10 : 0 ≤ (x4_1 : Int) := of_decide_eq_true AS; have q10 : (x4_1 : Int) < ((x3_1.length : Int) : Int) := of_decide_eq_true AS; obtain ⟨go10, ef10⟩ := HM.form 0 rfl (by have h_ := (HM.CR 0 rfl).1; omega); subst ef10; obtain ⟨hx10_0, hx10_1, hx10_2, hf10_0, hf10_1, hf10_2⟩ := HM.el3 0 rfl z76 (x4_1 : Int) p10 (by have h_ := (HM.CR 0 rfl).1; omega) (.string ((rd_T76 x3_1 x4_1).f0)) (.string ((rd_T76 x3_1 x4_1).f1)) (.int .i64 ((rd_T76 x3_1 x4_1).f2)) (fun _ _ h => k76_openM h); replace p10 := eq_true p10; replace q10 := eq_true q10) | ((with_reducible refine gS 21 rfl ?_); refine pPR 0 21 (x4_1 : Int) 0 [.string t789, .string t790, .int .i64 t791] k76 76 x3_1 (⟨t789, t790, t791⟩ : S76) z76 [.string ((rd_T76 x3_1 x4_1).f0), .string ((rd_T76 x3_1 x4_1).f1), .int .i64 ((rd_T76 x3_1 x4_1).f2)] HM rfl rfl (of_decide_eq_true AS) (by have h_ : (x4_1 : Int) < ((x3_1.length : Int) : Int) := of_decide_eq_true AS; have e_ := (HM.CR 0 rfl).1; omega) (fun _ _ h => k76_openM h) (k76_mkM _ _ _ (⟨t789, t790, t791⟩ : S76)) ?_; clear HM; intro w12 HM))
    go_roundg k1
    case measure => have := HK1.out; omega
    case rel => exact ⟨((x3_1.set (x4_1 : Int).toNat (⟨t789, t790, t791⟩ : S76))), (wrap64 (x4_1 + 1)), RS, H', ⟨by have := HK1.out; omega⟩, (MD HM).pick [0]⟩
   ·have c5b0 : decide (x4_1 < (l0.length : Int)) = false := decide_eq_false c5
    clear c5
    first|rw [c5b0]|(simp only [i64_w, i32_w]; rw [c5b0])|skip
    obtain rfl := Option.some.inj H
    go_wp2
    go_ret
    exact ⟨_, ER, (MD HM).pick [0]⟩
def laws_toIntS.l0 : Nat → List Int → List Int → Int → Option (List Int)
 | 0, _, _, _ => none
 | k + 1, x0, x3, x4 => if x4 < (x0.length : Int) then (if 0 ≤ x4 then (if x4 < (x3.length : Int) then (laws_toIntS.l0 k x0 (x3.set (x4 : Int).toNat (rd x0 x4)) (wrap64 (x4 + 1))) else (none)) else (none)) else (some x3)
def laws_toIntS.f (k : Nat) (l0 : List Int) : Option (List Int) := if 0 ≤ (l0.length : Int) then (if ((l0.length : Int) : Int).toNat ≤ 35184372088832 then (laws_toIntS.l0 k l0 (List.replicate ((l0.length : Int) : Int).toNat 0) 0) else (none)) else (none)
theorem laws_toIntS.calls (k : Nat) (A0 : Option Addr) (c0 : Nat) (l0 : List Int) (r : List Int) (w : World) (hr0 : Kd.C (Kd.int .i64) w A0 l0.length l0) (hc0 : l0.length ≤ c0) (h : laws_toIntS.f k l0 = some r) :
  Calls Try.prog 52 #[.slice A0 l0.length c0] w fun e w' => ∃ v0_ : Value, e = .returned (v0_) ∧ Mem w [] w' [rowR (Kd.int .i64) 3 v0_ r] := by
 have HR0 := Aside0.mk hr0
 have HC0 := Aside0.mk hc0
 clear hr0 hc0
 have HM := Mem.nil w
 have H := h
 clear h
 unfold laws_toIntS.f at H
 go_enter Try.func52, Try.ntmps52
 replace H := GD H; obtain ⟨c2, H⟩ := H
 have c2b0 := eq_true c2
 have c2b1 : decide (0 ≤ (l0.length : Int)) = true := decide_eq_true c2
 clear c2
 replace H := GD H; obtain ⟨c3, H⟩ := H
 have c3b0 := eq_true c3
 have c3b1 : decide (((l0.length : Int) : Int).toNat ≤ 35184372088832) = true := decide_eq_true c3
 clear c3
 have H' := Aside0.mk H
 clear H
 go_wp2_with (first | ((with_reducible refine gN 7 rfl ?_); refine pM 7 (Kd.int .i64) 3 23 _ _ (l0.length : Int) (.int .i64 0) 8 0 HM rfl Try.underlying23 info3 (of_decide_eq_true AS) (Nat.le_trans (Nat.mul_le_mul_right _ (of_decide_eq_true AS : (l0.length : Int).toNat ≤ 35184372088832)) (by omega)) (hzero := rfl) ?_; clear HM; intro v794 w4 HM))
 go_loopg [4] k (fun kq v4 w' => ∃ (x3_1 : List Int) (x4_1 : Int), v4 = .int .i64 x4_1 ∧ Aside0 (laws_toIntS.l0 kq l0 x3_1 x4_1 = some r) ∧ Aside0 (kq ≤ k) ∧ Mem w [] w' [rowR (Kd.int .i64) 3 v794 x3_1])
 case atStart => exact ⟨((List.replicate ((l0.length : Int) : Int).toNat 0)), (0), RS, H', ⟨Nat.le_refl _⟩, (MD HM).pick [0]⟩
 case round =>
  clear H' HM
  obtain ⟨x3_1, x4_1, rfl, HA, HK1, HM⟩ := hrel
  cases gk with
  | zero => exact absurd HA.out (by simp [laws_toIntS.l0])
  | succ k1 =>
   have H := HA.out
   clear HA
   simp only [laws_toIntS.l0] at H
   go_upto_if 11 with (fail)
   replace H := IT H; rcases H with ⟨c5, H⟩ | ⟨c5, H⟩
   ·have c5b0 := decide_eq_true c5
    clear c5
    first|rw [c5b0]|(simp only [i64_w, i32_w]; rw [c5b0])|skip
    replace H := GD H; obtain ⟨c6, H⟩ := H
    have c6b0 := decide_eq_true c6
    clear c6
    replace H := GD H; obtain ⟨c7, H⟩ := H
    have c7b0 := decide_eq_true c7
    clear c7
    have H' := Aside0.mk H
    clear H
    have p796 : 0 ≤ (x4_1 : Int) := of_decide_eq_true AS
    have q796 : (x4_1 : Int) < (l0.length : Int) := of_decide_eq_true AS
    obtain ⟨ad796, e796, hx796_0⟩ := Kd.at_int (HM.came HR0.out) x4_1 p796 q796
    cases e796
    replace p796 := eq_true p796
    replace q796 := eq_true q796
    obtain ⟨Xo9, ko9, rfl⟩ := HM.rdR 0 rfl
    have p8 : 0 ≤ (x4_1 : Int) := of_decide_eq_true AS
    have q8 : (x4_1 : Int) < ((x3_1.length : Int) : Int) := of_decide_eq_true AS
    obtain ⟨go8, ef8⟩ := HM.form 0 rfl (by have h_ := (HM.CR 0 rfl).1; omega)
    subst ef8
    obtain ⟨hcc8, hfr8⟩ := HM.el 0 rfl 0 (x4_1 : Int) p8 (by have h_ := (HM.CR 0 rfl).1; omega) [.int .i64 (rd x3_1 x4_1)] (fun _ _ h => h)
    have hx8_0 : wr.cell? ⟨go8, (x4_1 : Int).toNat, none⟩ = some (.int .i64 (rd x3_1 x4_1)) := (by have h_ := hcc8 0 _ rfl; first | exact h_ | (simp only [show ((Kd.int .i64)).sz = 1 from rfl, Nat.mul_one, Nat.add_zero] at h_; exact h_) | simpa using h_)
    have hf8_0 : wr.frozen? ⟨go8, (x4_1 : Int).toNat, none⟩ = false := (by have h_ := hfr8 0; first | exact h_ | (simp only [show ((Kd.int .i64)).sz = 1 from rfl, Nat.mul_one, Nat.add_zero] at h_; exact h_) | simpa using h_)
    clear hcc8 hfr8
    replace p8 := eq_true p8
    replace q8 := eq_true q8
    go_wp2_with (first | ((with_reducible refine gS 20 rfl ?_); refine pPR 0 20 (x4_1 : Int) 0 [.int .i64 (rd l0 x4_1)] (Kd.int .i64) 3 x3_1 (rd l0 x4_1) 0 [.int .i64 (rd x3_1 x4_1)] HM rfl rfl (of_decide_eq_true AS) (by have h_ : (x4_1 : Int) < ((x3_1.length : Int) : Int) := of_decide_eq_true AS; have e_ := (HM.CR 0 rfl).1; omega) (fun _ _ h => h) rfl ?_; clear HM; intro w10 HM))
    go_roundg k1
    case measure => have := HK1.out; omega
    case rel => exact ⟨((x3_1.set (x4_1 : Int).toNat (rd l0 x4_1))), (wrap64 (x4_1 + 1)), RS, H', ⟨by have := HK1.out; omega⟩, (MD HM).pick [0]⟩
   ·have c5b0 := decide_eq_false c5
    clear c5
    first|rw [c5b0]|(simp only [i64_w, i32_w]; rw [c5b0])|skip
    obtain rfl := Option.some.inj H
    go_wp2
    go_ret
    exact ⟨_, ER, (MD HM).pick [0]⟩
def laws_toThree.f (k : Nat) (a0_0 : Int) (a0_1 : Int) (l0_2 : List (S99)) (l0_3 : List (S99)) (l0_4 : List Int) : Option (Int × Int × (List (S76)) × (List (S76)) × List Int) := (laws_toItemS.f k l0_2).bind fun t801 => ((laws_toItemS.f k l0_3).bind fun t804 => ((laws_toIntS.f k l0_4).bind fun t807 => (some (a0_0, a0_1, t801, t804, t807))))
theorem laws_toThree.calls (k : Nat) (a0_0 : Int) (a0_1 : Int) (A0_2 : Option Addr) (c0_2 : Nat) (l0_2 : List (S99)) (A0_3 : Option Addr) (c0_3 : Nat) (l0_3 : List (S99)) (A0_4 : Option Addr) (c0_4 : Nat) (l0_4 : List Int) (r1 : Int) (r2 : Int) (r3 : List (S76)) (r4 : List (S76)) (r5 : List Int) (w : World) (hr0_2 : Kd.C k99 w A0_2 l0_2.length l0_2) (hc0_2 : l0_2.length ≤ c0_2) (hr0_3 : Kd.C k99 w A0_3 l0_3.length l0_3) (hc0_3 : l0_3.length ≤ c0_3) (hr0_4 : Kd.C (Kd.int .i64) w A0_4 l0_4.length l0_4) (hc0_4 : l0_4.length ≤ c0_4) (h : laws_toThree.f k a0_0 a0_1 l0_2 l0_3 l0_4 = some (r1, r2, r3, r4, r5)) :
  Calls Try.prog 18 #[.agg #[.int .i64 a0_0, .int .i64 a0_1, .slice A0_2 l0_2.length c0_2, .slice A0_3 l0_3.length c0_3, .slice A0_4 l0_4.length c0_4]] w fun e w' => ∃ v2_ v3_ v4_ : Value, e = .returned (.agg #[.int .i64 r1, .int .i64 r2, v2_, v3_, v4_]) ∧ Mem w [] w' [rowR k76 76 v2_ r3, rowR k76 76 v3_ r4, rowR (Kd.int .i64) 3 v4_ r5] := by
 have hu42 := Try.underlying42
 have hu25 := Try.underlying25
 have HR0_2 := Aside0.mk hr0_2
 have HC0_2 := Aside0.mk hc0_2
 clear hr0_2 hc0_2
 have HR0_3 := Aside0.mk hr0_3
 have HC0_3 := Aside0.mk hc0_3
 clear hr0_3 hc0_3
 have HR0_4 := Aside0.mk hr0_4
 have HC0_4 := Aside0.mk hc0_4
 clear hr0_4 hc0_4
 have HM := Mem.nil w
 have H := h
 clear h
 unfold laws_toThree.f at H
 go_enter Try.func18, Try.ntmps18
 replace H := BN H; obtain ⟨t801, A10, H⟩ := H
 replace H := BN H; obtain ⟨t804, A15, H⟩ := H
 replace H := BN H; obtain ⟨t807, A20, H⟩ := H
 simp only [Option.some.injEq, Prod.mk.injEq] at H
 obtain ⟨rfl, rfl, rfl, rfl, rfl⟩ := H
 go_wp2_with (first | ((with_reducible refine gN 1 rfl ?_); refine pB 1 42 [.int .i64 a0_0, .int .i64 a0_1, .slice A0_2 l0_2.length c0_2, .slice A0_3 l0_3.length c0_3, .slice A0_4 l0_4.length c0_4] HM rfl ?_; clear HM; intro gb798 w2 HM) | ((with_reducible refine gN 2 rfl ?_); refine pB 2 25 [.int .i64 0, .int .i64 0, .slice none 0 0, .slice none 0 0, .slice none 0 0] HM rfl ?_; clear HM; intro gb799 w3 HM) | ((with_reducible refine gN 3 rfl ?_); refine pB 3 25 [.int .i64 0, .int .i64 0, .slice none 0 0, .slice none 0 0, .slice none 0 0] HM rfl ?_; clear HM; intro gb800 w4 HM; obtain ⟨_,_,_,_,_,_,_,_,_,_⟩ := bk5 (HM.bx 0 rfl)) | ((with_reducible refine gS 6 rfl ?_); refine pS 2 6 0 [.int .i64 a0_0] HM rfl rfl ?_; clear HM; intro w6 HM; obtain ⟨_,_,_,_,_,_,_,_,_,_⟩ := bk5 (HM.bx 0 rfl)) | ((with_reducible refine gS 9 rfl ?_); refine pS 2 9 1 [.int .i64 a0_1] HM rfl rfl ?_; clear HM; intro w8 HM; obtain ⟨_,_,_,_,_,_,_,_,_,_⟩ := bk5 (HM.bx 0 rfl)) | ((with_reducible refine gC 51 rfl ?_); refine pC (some 12) rfl #[.slice A0_2 l0_2.length c0_2] rfl Try.func51 (laws_toItemS.calls k _ _ l0_2 t801 _ (HM.came HR0_2.out) HC0_2.out A10.out) ?_; rintro e w11 ⟨v802, rfl, hR⟩; refine ⟨_, rfl, ?_⟩; replace HM := HM.call hR; clear hR; obtain ⟨Xo12, ko12, rfl⟩ := HM.rdR 3 rfl) | ((with_reducible refine gS 13 rfl ?_); refine pS 2 13 2 [.slice Xo12 t801.length ko12] HM rfl rfl ?_; clear HM; intro w13 HM; obtain ⟨_,_,_,_,_,_,_,_,_,_⟩ := bk5 (HM.bx 0 rfl)) | ((with_reducible refine gC 51 rfl ?_); refine pC (some 16) rfl #[.slice A0_3 l0_3.length c0_3] rfl Try.func51 (laws_toItemS.calls k _ _ l0_3 t804 _ (HM.came HR0_3.out) HC0_3.out A15.out) ?_; rintro e w16 ⟨v805, rfl, hR⟩; refine ⟨_, rfl, ?_⟩; replace HM := HM.call hR; clear hR; obtain ⟨Xo17, ko17, rfl⟩ := HM.rdR 4 rfl) | ((with_reducible refine gS 17 rfl ?_); refine pS 2 17 3 [.slice Xo17 t804.length ko17] HM rfl rfl ?_; clear HM; intro w18 HM; obtain ⟨_,_,_,_,_,_,_,_,_,_⟩ := bk5 (HM.bx 0 rfl)) | ((with_reducible refine gC 52 rfl ?_); refine pC (some 20) rfl #[.slice A0_4 l0_4.length c0_4] rfl Try.func52 (laws_toIntS.calls k _ _ l0_4 t807 _ (HM.came HR0_4.out) HC0_4.out A20.out) ?_; rintro e w21 ⟨v808, rfl, hR⟩; refine ⟨_, rfl, ?_⟩; replace HM := HM.call hR; clear hR; obtain ⟨Xo22, ko22, rfl⟩ := HM.rdR 5 rfl) | ((with_reducible refine gS 21 rfl ?_); refine pS 2 21 4 [.slice Xo22 t807.length ko22] HM rfl rfl ?_; clear HM; intro w23 HM; obtain ⟨_,_,_,_,_,_,_,_,_,_⟩ := bk5 (HM.bx 2 rfl)) | ((with_reducible refine gS 2 rfl ?_); refine pS 1 2 0 [.int .i64 a0_0, .int .i64 a0_1, .slice Xo12 t801.length ko12, .slice Xo17 t804.length ko17, .slice Xo22 t807.length ko22] HM rfl rfl ?_; clear HM; intro w25 HM))
 refine bodyPost_ret (results_cell_row rfl _ _ gb799 25 #[.int .i64 a0_0, .int .i64 a0_1, .slice Xo12 t801.length ko12, .slice Xo17 t804.length ko17, .slice Xo22 t807.length ko22] (0, 0) _ rfl (HM.bx 1 rfl) Try.underlying25 rfl (by kernel_rfl)) rfl ?_
 exact ⟨_, _, _, ER, (MD HM).pick [3, 4, 5]⟩
mutual
def laws_FnExactMend.j0 : Nat → ByteArray → Bool → Bool → Bool → Int → Int → List (S99) → List (S99) → List Int → Int → Int → List (S76) → List (S76) → List Int → Int → Int → List (S76) → List (S76) → List Int → Int → Int → List (S76) → List (S76) → List Int → Option (Bool)
 | 0, _, _, _, _, _, _, _, _, _, _, _, _, _, _, _, _, _, _, _, _, _, _, _, _ => none
 | k + 1, x0, x7, x10, x47, x855000, x855001, x855002, x855003, x855004, x880000, x880001, x880002, x880003, x880004, x892000, x892001, x892002, x892003, x892004, x905000, x905001, x905002, x905003, x905004 => if x47 = true then (none) else ((laws_toThree.f k x855000 x855001 x855002 x855003 x855004).bind fun bt906 => ((laws_eqThree.f k x892000 x892001 x892002 x892003 x892004 bt906.1 bt906.2.1 bt906.2.2.1 bt906.2.2.2.1 bt906.2.2.2.2).bind fun t917 => (if t917 = true then ((laws_markThree.f k x892000 x892001 x892002 x892003 x892004 1).bind fun bt918 => (if bt918.1 < 0 then (laws_FnExactMend.j1 k x0 x7 true x855000 x855001 x855002 x855003 x855004 x880000 x880001 x880002 x880003 x880004 x905000 x905001 x905002 x905003 x905004) else ((laws_eqThree.f k x905000 x905001 x905002 x905003 x905004 x880000 x880001 x880002 x880003 x880004).bind fun t922 => (if t922 = true then (laws_FnExactMend.j1 k x0 x7 (x10 != x7) x855000 x855001 x855002 x855003 x855004 x880000 x880001 x880002 x880003 x880004 x905000 x905001 x905002 x905003 x905004) else (laws_FnExactMend.j1 k x0 x7 true x855000 x855001 x855002 x855003 x855004 x880000 x880001 x880002 x880003 x880004 x905000 x905001 x905002 x905003 x905004))))) else (none))))
def laws_FnExactMend.j1 : Nat → ByteArray → Bool → Bool → Int → Int → List (S99) → List (S99) → List Int → Int → Int → List (S76) → List (S76) → List Int → Int → Int → List (S76) → List (S76) → List Int → Option (Bool)
 | 0, _, _, _, _, _, _, _, _, _, _, _, _, _, _, _, _, _, _ => none
 | k + 1, x0, x7, x68, x855000, x855001, x855002, x855003, x855004, x880000, x880001, x880002, x880003, x880004, x905000, x905001, x905002, x905003, x905004 => if x68 = true then (none) else ((laws_markThree.f k x905000 x905001 x905002 x905003 x905004 1).bind fun bt923 => ((laws_heldThree.f k x905000 x905001 bt923.2.1 bt923.2.2.1 bt923.2.2.2 1).bind fun t927 => (if t927 < 0 then (none) else (if t927 = bt923.1 then ((laws_toThree.f k x855000 x855001 x855002 x855003 x855004).bind fun bt928 => ((impl_Mend.f k x0 bt928.1 bt928.2.1 bt928.2.2.1 bt928.2.2.2.1 bt928.2.2.2.2).bind fun bt939 => ((laws_eqThree.f k bt939.1 bt939.2.1 bt939.2.2.1 bt939.2.2.2.1 bt939.2.2.2.2.1 x880000 x880001 x880002 x880003 x880004).bind fun t952 => (if t952 = true then (laws_FnExactMend.j2 k bt923.1 (bt939.2.2.2.2.2 != x7) x905000 x905001 bt923.2.1 bt923.2.2.1 bt923.2.2.2) else (laws_FnExactMend.j2 k bt923.1 true x905000 x905001 bt923.2.1 bt923.2.2.1 bt923.2.2.2))))) else (none)))))
def laws_FnExactMend.j2 : Nat → Int → Bool → Int → Int → List (S76) → List (S76) → List Int → Option (Bool)
 | 0, _, _, _, _, _, _, _ => none
 | k + 1, x12, x95, x905000, x905001, x905002, x905003, x905004 => if x95 = true then (none) else ((laws_heldThree.f k x905000 x905001 x905002 x905003 x905004 1).bind fun t953 => (if t953 < 0 then (none) else (if t953 = x12 then (some true) else (none))))
end
def laws_FnExactMend.f (k : Nat) (a0 : ByteArray) (a1_0 : Int) (a1_1 : Int) (l1_2 : List (S99)) (l1_3 : List (S99)) (l1_4 : List Int) : Option (Bool) := if (a0.size : Int) > 1048576 then (some true) else ((laws_szThree.f k a1_0 a1_1 l1_2 l1_3 l1_4 1048576).bind fun t855 => (if t855 < 0 then (some true) else ((laws_toThree.f k a1_0 a1_1 l1_2 l1_3 l1_4).bind fun bt856 => ((spec_Mend.f k a0 bt856.1 bt856.2.1 bt856.2.2.1 bt856.2.2.2.1 bt856.2.2.2.2).bind fun bt867 => ((laws_toThree.f k a1_0 a1_1 l1_2 l1_3 l1_4).bind fun bt880 => ((impl_Mend.f k a0 bt880.1 bt880.2.1 bt880.2.2.1 bt880.2.2.2.1 bt880.2.2.2.2).bind fun bt892 => ((laws_eqThree.f k bt892.1 bt892.2.1 bt892.2.2.1 bt892.2.2.2.1 bt892.2.2.2.2.1 bt867.1 bt867.2.1 bt867.2.2.1 bt867.2.2.2.1 bt867.2.2.2.2.1).bind fun t905 => (if t905 = true then (laws_FnExactMend.j0 k a0 bt867.2.2.2.2.2 bt892.2.2.2.2.2 (bt892.2.2.2.2.2 != bt867.2.2.2.2.2) a1_0 a1_1 l1_2 l1_3 l1_4 bt867.1 bt867.2.1 bt867.2.2.1 bt867.2.2.2.1 bt867.2.2.2.2.1 bt880.1 bt880.2.1 bt880.2.2.1 bt880.2.2.2.1 bt880.2.2.2.2 bt892.1 bt892.2.1 bt892.2.2.1 bt892.2.2.2.1 bt892.2.2.2.2.1) else (laws_FnExactMend.j0 k a0 bt867.2.2.2.2.2 bt892.2.2.2.2.2 true a1_0 a1_1 l1_2 l1_3 l1_4 bt867.1 bt867.2.1 bt867.2.2.1 bt867.2.2.2.1 bt867.2.2.2.2.1 bt880.1 bt880.2.1 bt880.2.2.1 bt880.2.2.2.1 bt880.2.2.2.2 bt892.1 bt892.2.1 bt892.2.2.1 bt892.2.2.2.1 bt892.2.2.2.2.1)))))))))
def laws_FnExactMend.T12 : Bool × List (List Nat × List Nat) := (true, [([], []), ([], []), ([1], [1]), ([0, 2, 2], [0, 2]), ([3], [3])])
def laws_FnExactMend.B12 : List Nat := [0, 0, 2, 7, 15]
theorem laws_FnExactMend.tab12 : rtab .any (opsOf Try.f5 12) = laws_FnExactMend.T12 := by kernel_rfl
theorem laws_FnExactMend.bits12 : waitsOk laws_FnExactMend.T12.2 laws_FnExactMend.B12 = true := by kernel_rfl
theorem laws_FnExactMend.calls (k : Nat) (a0 : ByteArray) (a1_0 : Int) (a1_1 : Int) (A1_2 : Option Addr) (c1_2 : Nat) (l1_2 : List (S99)) (A1_3 : Option Addr) (c1_3 : Nat) (l1_3 : List (S99)) (A1_4 : Option Addr) (c1_4 : Nat) (l1_4 : List Int) (r : Bool) (w : World) (hr1_2 : Kd.C k99 w A1_2 l1_2.length l1_2) (hc1_2 : l1_2.length ≤ c1_2) (hr1_3 : Kd.C k99 w A1_3 l1_3.length l1_3) (hc1_3 : l1_3.length ≤ c1_3) (hr1_4 : Kd.C (Kd.int .i64) w A1_4 l1_4.length l1_4) (hc1_4 : l1_4.length ≤ c1_4) (h : laws_FnExactMend.f k a0 a1_0 a1_1 l1_2 l1_3 l1_4 = some r) :
  Calls Try.prog 5 #[.string a0, .agg #[.int .i64 a1_0, .int .i64 a1_1, .slice A1_2 l1_2.length c1_2, .slice A1_3 l1_3.length c1_3, .slice A1_4 l1_4.length c1_4]] w fun e w' => e = .returned (.bool r) ∧ Below w.heap.size w w' := by
 have hu42 := Try.underlying42
 have hu25 := Try.underlying25
 have HR1_2 := Aside0.mk hr1_2
 have HC1_2 := Aside0.mk hc1_2
 clear hr1_2 hc1_2
 have HR1_3 := Aside0.mk hr1_3
 have HC1_3 := Aside0.mk hc1_3
 clear hr1_3 hc1_3
 have HR1_4 := Aside0.mk hr1_4
 have HC1_4 := Aside0.mk hc1_4
 clear hr1_4 hc1_4
 have HM := Mem.nil w
 have H := h
 clear h
 unfold laws_FnExactMend.f at H
 go_enter Try.func5, Try.ntmps5
 go_upto_if 18 with (first | ((with_reducible refine gN 3 rfl ?_); refine pB 3 42 [.int .i64 a1_0, .int .i64 a1_1, .slice A1_2 l1_2.length c1_2, .slice A1_3 l1_3.length c1_3, .slice A1_4 l1_4.length c1_4] HM rfl ?_; clear HM; intro gb854 w3 HM))
 replace H := IT H; rcases H with ⟨c4, H⟩ | ⟨c4, H⟩
 ·replace c4 : (a0.size : Int) > 1048576 := c4
  have c4b0 : decide (1048576 < (a0.size : Int)) = true := decide_eq_true c4
  have c4b1 : decide (1048576 < a0.size) = true := decide_eq_true (by omega)
  clear c4
  first|rw [c4b0]|(simp only [i64_w, i32_w]; rw [c4b0])|skip
  obtain rfl := Option.some.inj H
  go_wp2
  go_ret
  exact ⟨ER, HM.bel⟩
 ·replace c4 : ¬ ((a0.size : Int) > 1048576) := c4
  have c4b0 : decide (1048576 < (a0.size : Int)) = false := decide_eq_false c4
  have c4b1 : decide (1048576 < a0.size) = false := decide_eq_false (by omega)
  clear c4
  first|rw [c4b0]|(simp only [i64_w, i32_w]; rw [c4b0])|skip
  replace H := BN H; obtain ⟨t855, A6, H⟩ := H
  obtain ⟨_,_,_,_,_,_,_,_,_,_⟩ := bk5 (HM.bx 0 rfl)
  go_upto_if 23 with (first | ((with_reducible refine gC 16 rfl ?_); refine pC (some 21) rfl #[.agg #[.int .i64 a1_0, .int .i64 a1_1, .slice A1_2 l1_2.length c1_2, .slice A1_3 l1_3.length c1_3, .slice A1_4 l1_4.length c1_4], .int .i64 1048576] rfl Try.func16 (laws_szThree.calls k a1_0 a1_1 _ _ l1_2 _ _ l1_3 _ _ l1_4 1048576 t855 _ (HM.came HR1_2.out) HC1_2.out (HM.came HR1_3.out) HC1_3.out (HM.came HR1_4.out) HC1_4.out A6.out) ?_; rintro e w7 ⟨rfl, hR⟩; refine ⟨_, rfl, ?_⟩; replace HM := HM.call hR; clear hR))
  replace H := IT H; rcases H with ⟨c8, H⟩ | ⟨c8, H⟩
  ·have c8b0 := decide_eq_true c8
   clear c8
   first|rw [c8b0]|(simp only [i64_w, i32_w]; rw [c8b0])|skip
   obtain rfl := Option.some.inj H
   go_wp2
   go_ret
   exact ⟨ER, HM.bel⟩
  ·have c8b0 := decide_eq_false c8
   clear c8
   first|rw [c8b0]|(simp only [i64_w, i32_w]; rw [c8b0])|skip
   replace H := BN H; obtain ⟨⟨t856, t857, t858, t861, t864⟩, A10, H⟩ := H
   replace H := BN H; obtain ⟨⟨t867, t868, t869, t872, t875, t878⟩, A12, H⟩ := H
   replace H := BN H; obtain ⟨⟨t880, t881, t882, t885, t888⟩, A23, H⟩ := H
   replace H := BN H; obtain ⟨⟨t892, t893, t894, t897, t900, t903⟩, A31, H⟩ := H
   have HC38 := Aside0.mk H
   clear H
   obtain ⟨_,_,_,_,_,_,_,_,_,_⟩ := bk5 (HM.bx 0 rfl)
   go_upto_region 10 with (first | ((with_reducible refine gC 18 rfl ?_); refine pC (some 27) rfl #[.agg #[.int .i64 a1_0, .int .i64 a1_1, .slice A1_2 l1_2.length c1_2, .slice A1_3 l1_3.length c1_3, .slice A1_4 l1_4.length c1_4]] rfl Try.func18 (laws_toThree.calls k a1_0 a1_1 _ _ l1_2 _ _ l1_3 _ _ l1_4 t856 t857 t858 t861 t864 _ (HM.came HR1_2.out) HC1_2.out (HM.came HR1_3.out) HC1_3.out (HM.came HR1_4.out) HC1_4.out A10.out) ?_; rintro e w11 ⟨v859, v862, v865, rfl, hR⟩; refine ⟨_, rfl, ?_⟩; replace HM := HM.call hR; clear hR; obtain ⟨Xo14, ko14, rfl⟩ := HM.rdR 1 rfl; obtain ⟨Xo15, ko15, rfl⟩ := HM.rdR 2 rfl; obtain ⟨Xo16, ko16, rfl⟩ := HM.rdR 3 rfl) | ((with_reducible refine gC 17 rfl ?_); refine pC (some 28) rfl #[.string a0, .agg #[.int .i64 t856, .int .i64 t857, .slice Xo14 t858.length ko14, .slice Xo15 t861.length ko15, .slice Xo16 t864.length ko16]] rfl Try.func17 (spec_Mend.calls k a0 t856 t857 _ _ t858 _ _ t861 _ _ t864 t867 t868 t869 t872 t875 t878 _ (HM.CR 1 rfl).2.2 (HM.CR 1 rfl).2.1 (HM.CR 2 rfl).2.2 (HM.CR 2 rfl).2.1 (HM.CR 3 rfl).2.2 (HM.CR 3 rfl).2.1 A12.out) ?_; rintro e w13 ⟨v870, v873, v876, rfl, hR⟩; refine ⟨_, rfl, ?_⟩; replace HM := HM.call hR; clear hR) | ((with_reducible refine gN 6 rfl ?_); refine pB 6 25 [.int .i64 0, .int .i64 0, .slice none 0 0, .slice none 0 0, .slice none 0 0] HM rfl ?_; clear HM; intro gb879 w17 HM; obtain ⟨Xo18, ko18, rfl⟩ := HM.rdR 4 rfl; obtain ⟨Xo19, ko19, rfl⟩ := HM.rdR 5 rfl; obtain ⟨Xo20, ko20, rfl⟩ := HM.rdR 6 rfl) | ((with_reducible refine gS 6 rfl ?_); refine pS 7 6 0 [.int .i64 t867, .int .i64 t868, .slice Xo18 t869.length ko18, .slice Xo19 t872.length ko19, .slice Xo20 t875.length ko20] HM rfl rfl ?_; clear HM; intro w21 HM; obtain ⟨_,_,_,_,_,_,_,_,_,_⟩ := bk5 (HM.bx 0 rfl)) | ((with_reducible refine gC 18 rfl ?_); refine pC (some 32) rfl #[.agg #[.int .i64 a1_0, .int .i64 a1_1, .slice A1_2 l1_2.length c1_2, .slice A1_3 l1_3.length c1_3, .slice A1_4 l1_4.length c1_4]] rfl Try.func18 (laws_toThree.calls k a1_0 a1_1 _ _ l1_2 _ _ l1_3 _ _ l1_4 t880 t881 t882 t885 t888 _ (HM.came HR1_2.out) HC1_2.out (HM.came HR1_3.out) HC1_3.out (HM.came HR1_4.out) HC1_4.out A23.out) ?_; rintro e w24 ⟨v883, v886, v889, rfl, hR⟩; refine ⟨_, rfl, ?_⟩; replace HM := HM.call hR; clear hR) | ((with_reducible refine gN 8 rfl ?_); refine pB 8 25 [.int .i64 0, .int .i64 0, .slice none 0 0, .slice none 0 0, .slice none 0 0] HM rfl ?_; clear HM; intro gb891 w25 HM; obtain ⟨Xo26, ko26, rfl⟩ := HM.rdR 8 rfl; obtain ⟨Xo27, ko27, rfl⟩ := HM.rdR 9 rfl; obtain ⟨Xo28, ko28, rfl⟩ := HM.rdR 10 rfl) | ((with_reducible refine gS 8 rfl ?_); refine pS 11 8 0 [.int .i64 t880, .int .i64 t881, .slice Xo26 t882.length ko26, .slice Xo27 t885.length ko27, .slice Xo28 t888.length ko28] HM rfl rfl ?_; clear HM; intro w29 HM; obtain ⟨_,_,_,_,_,_,_,_,_,_⟩ := bk5 (HM.bx 11 rfl)) | ((with_reducible refine gC 19 rfl ?_); refine pC (some 36) rfl #[.string a0, .agg #[.int .i64 t880, .int .i64 t881, .slice Xo26 t882.length ko26, .slice Xo27 t885.length ko27, .slice Xo28 t888.length ko28]] rfl Try.func19 (impl_Mend.calls k a0 t880 t881 _ _ t882 _ _ t885 _ _ t888 t892 t893 t894 t897 t900 t903 _ (HM.CR 8 rfl).2.2 (HM.CR 8 rfl).2.1 (HM.CR 9 rfl).2.2 (HM.CR 9 rfl).2.1 (HM.CR 10 rfl).2.2 (HM.CR 10 rfl).2.1 A31.out) ?_; rintro e w32 ⟨v895, v898, v901, rfl, hR⟩; refine ⟨_, rfl, ?_⟩; replace HM := HM.call hR; clear hR) | ((with_reducible refine gN 9 rfl ?_); refine pB 9 25 [.int .i64 0, .int .i64 0, .slice none 0 0, .slice none 0 0, .slice none 0 0] HM rfl ?_; clear HM; intro gb904 w33 HM; obtain ⟨Xo34, ko34, rfl⟩ := HM.rdR 12 rfl; obtain ⟨Xo35, ko35, rfl⟩ := HM.rdR 13 rfl; obtain ⟨Xo36, ko36, rfl⟩ := HM.rdR 14 rfl) | ((with_reducible refine gS 9 rfl ?_); refine pS 15 9 0 [.int .i64 t892, .int .i64 t893, .slice Xo34 t894.length ko34, .slice Xo35 t897.length ko35, .slice Xo36 t900.length ko36] HM rfl rfl ?_; clear HM; intro w37 HM))
   replace HM := nzM HM
   try simp only [Act.put, List.setIfInBounds_toArray, List.set_cons_zero, List.set_cons_succ]
   go_cut [47] (fun v47 wc => ∃ (kq : Nat) (x47_37 : Bool), v47 = .bool x47_37 ∧ Aside0 (laws_FnExactMend.j0 kq a0 t878 t903 x47_37 a1_0 a1_1 l1_2 l1_3 l1_4 t867 t868 t869 t872 t875 t880 t881 t882 t885 t888 t892 t893 t894 t897 t900 = some r) ∧ Aside0 (kq ≤ k) ∧ Mem w [] wc [rowR k76 76 (.slice Xo18 t869.length ko18) t869, rowR k76 76 (.slice Xo19 t872.length ko19) t872, rowR (Kd.int .i64) 3 (.slice Xo20 t875.length ko20) t875, rowR k76 76 (.slice Xo26 t882.length ko26) t882, rowR k76 76 (.slice Xo27 t885.length ko27) t885, rowR (Kd.int .i64) 3 (.slice Xo28 t888.length ko28) t888, rowR k76 76 (.slice Xo34 t894.length ko34) t894, rowR k76 76 (.slice Xo35 t897.length ko35) t897, rowR (Kd.int .i64) 3 (.slice Xo36 t900.length ko36) t900, box 42 gb854 [.int .i64 a1_0, .int .i64 a1_1, .slice A1_2 l1_2.length c1_2, .slice A1_3 l1_3.length c1_3, .slice A1_4 l1_4.length c1_4], box 25 gb879 [.int .i64 t867, .int .i64 t868, (.slice Xo18 t869.length ko18), (.slice Xo19 t872.length ko19), (.slice Xo20 t875.length ko20)], box 25 gb891 [.int .i64 t880, .int .i64 t881, (.slice Xo26 t882.length ko26), (.slice Xo27 t885.length ko27), (.slice Xo28 t888.length ko28)], box 25 gb904 [.int .i64 t892, .int .i64 t893, (.slice Xo34 t894.length ko34), (.slice Xo35 t897.length ko35), (.slice Xo36 t900.length ko36)]])
   case first =>
    have H := HC38.out
    clear HC38
    replace H := BN H; obtain ⟨t905, A41, H⟩ := H
    replace H := IB H
    rcases H with ⟨c43, H⟩ | ⟨c43, H⟩
    ·subst c43
     have H' := Aside0.mk H
     clear H
     obtain ⟨_,_,_,_,_,_,_,_,_,_⟩ := bk5 (HM.bx 15 rfl)
     obtain ⟨_,_,_,_,_,_,_,_,_,_⟩ := bk5 (HM.bx 7 rfl)
     go_wp2_with (first | ((with_reducible refine gC 8 rfl ?_); refine pC (some 41) rfl #[.agg #[.int .i64 t892, .int .i64 t893, .slice Xo34 t894.length ko34, .slice Xo35 t897.length ko35, .slice Xo36 t900.length ko36], .agg #[.int .i64 t867, .int .i64 t868, .slice Xo18 t869.length ko18, .slice Xo19 t872.length ko19, .slice Xo20 t875.length ko20]] rfl Try.func8 (laws_eqThree.calls k t892 t893 _ _ t894 _ _ t897 _ _ t900 t867 t868 _ _ t869 _ _ t872 _ _ t875 true _ (HM.CR 12 rfl).2.2 (HM.CR 12 rfl).2.1 (HM.CR 13 rfl).2.2 (HM.CR 13 rfl).2.1 (HM.CR 14 rfl).2.2 (HM.CR 14 rfl).2.1 (HM.CR 4 rfl).2.2 (HM.CR 4 rfl).2.1 (HM.CR 5 rfl).2.2 (HM.CR 5 rfl).2.1 (HM.CR 6 rfl).2.2 (HM.CR 6 rfl).2.1 A41.out) ?_; rintro e w42 ⟨rfl, hR⟩; refine ⟨_, rfl, ?_⟩; replace HM := HM.call hR; clear hR))
     go_meet
     case rel => exact ⟨_, ((t903 != t878)), RS, H', ⟨by first | omega | exact Nat.le_refl _⟩, (MD HM).pick [4, 5, 6, 8, 9, 10, 12, 13, 14, 0, 7, 11, 15]⟩
    ·subst c43
     have H' := Aside0.mk H
     clear H
     obtain ⟨_,_,_,_,_,_,_,_,_,_⟩ := bk5 (HM.bx 15 rfl)
     obtain ⟨_,_,_,_,_,_,_,_,_,_⟩ := bk5 (HM.bx 7 rfl)
     go_wp2_with (first | ((with_reducible refine gC 8 rfl ?_); refine pC (some 41) rfl #[.agg #[.int .i64 t892, .int .i64 t893, .slice Xo34 t894.length ko34, .slice Xo35 t897.length ko35, .slice Xo36 t900.length ko36], .agg #[.int .i64 t867, .int .i64 t868, .slice Xo18 t869.length ko18, .slice Xo19 t872.length ko19, .slice Xo20 t875.length ko20]] rfl Try.func8 (laws_eqThree.calls k t892 t893 _ _ t894 _ _ t897 _ _ t900 t867 t868 _ _ t869 _ _ t872 _ _ t875 false _ (HM.CR 12 rfl).2.2 (HM.CR 12 rfl).2.1 (HM.CR 13 rfl).2.2 (HM.CR 13 rfl).2.1 (HM.CR 14 rfl).2.2 (HM.CR 14 rfl).2.1 (HM.CR 4 rfl).2.2 (HM.CR 4 rfl).2.1 (HM.CR 5 rfl).2.2 (HM.CR 5 rfl).2.1 (HM.CR 6 rfl).2.2 (HM.CR 6 rfl).2.1 A41.out) ?_; rintro e w42 ⟨rfl, hR⟩; refine ⟨_, rfl, ?_⟩; replace HM := HM.call hR; clear hR))
     go_meet
     case rel => exact ⟨_, (true), RS, H', ⟨by first | omega | exact Nat.le_refl _⟩, (MD HM).pick [4, 5, 6, 8, 9, 10, 12, 13, 14, 0, 7, 11, 15]⟩
   case rest =>
    clear HC38 HM
    obtain ⟨kq, x47_37, rfl, HA, HJ37, HM⟩ := hcut
    cases kq with
    | zero => exact absurd HA.out (by simp [laws_FnExactMend.j0])
    | succ kj37 =>
     have H := HA.out
     clear HA
     simp only [laws_FnExactMend.j0] at H
     replace H := GN H
     obtain ⟨c44, H⟩ := H
     replace c44 := Bool.eq_false_iff.mpr c44
     subst c44
     try go_wp2
     replace H := BN H; obtain ⟨⟨t906, t907, t908, t911, t914⟩, A45, H⟩ := H
     replace H := BN H; obtain ⟨t917, A46, H⟩ := H
     refine RGN 5 [0, 1, 2, 3, 4] (fun a0 b a w' => ∃ (v909 : Value) (v912 : Value) (v915 : Value), a = putSel a0 b [(0, 48, .agg #[.int .i64 t880, .int .i64 t881, .slice Xo26 t882.length ko26, .slice Xo27 t885.length ko27, .slice Xo28 t888.length ko28]), (1, 49, .agg #[.int .i64 a1_0, .int .i64 a1_1, .slice A1_2 l1_2.length c1_2, .slice A1_3 l1_3.length c1_3, .slice A1_4 l1_4.length c1_4]), (2, 50, .agg #[.int .i64 t906, .int .i64 t907, v909, v912, v915]), (3, 51, .bool t917), (4, 52, .bool (!t917))] ∧ Mem w [] w' [rowR k76 76 (.slice Xo18 t869.length ko18) t869, rowR k76 76 (.slice Xo19 t872.length ko19) t872, rowR (Kd.int .i64) 3 (.slice Xo20 t875.length ko20) t875, rowR k76 76 (.slice Xo26 t882.length ko26) t882, rowR k76 76 (.slice Xo27 t885.length ko27) t885, rowR (Kd.int .i64) 3 (.slice Xo28 t888.length ko28) t888, rowR k76 76 (.slice Xo34 t894.length ko34) t894, rowR k76 76 (.slice Xo35 t897.length ko35) t897, rowR (Kd.int .i64) 3 (.slice Xo36 t900.length ko36) t900, box 42 gb854 [.int .i64 a1_0, .int .i64 a1_1, .slice A1_2 l1_2.length c1_2, .slice A1_3 l1_3.length c1_3, .slice A1_4 l1_4.length c1_4], box 25 gb879 [.int .i64 t867, .int .i64 t868, .slice Xo18 t869.length ko18, .slice Xo19 t872.length ko19, .slice Xo20 t875.length ko20], box 25 gb891 [.int .i64 t880, .int .i64 t881, .slice Xo26 t882.length ko26, .slice Xo27 t885.length ko27, .slice Xo28 t888.length ko28], box 25 gb904 [.int .i64 t892, .int .i64 t893, .slice Xo34 t894.length ko34, .slice Xo35 t897.length ko35, .slice Xo36 t900.length ko36], sel (b 2) (rowR k76 76 v909 t908) (emp), sel (b 2) (rowR k76 76 v912 t911) (emp), sel (b 2) (rowR (Kd.int .i64) 3 v915 t914) (emp)]) laws_FnExactMend.tab12 laws_FnExactMend.bits12 ?_ ?_ ?_
     ·exact ⟨.bool false, .bool false, .bool false, PS0' rfl _, (HM.drew.ems 3).pick [0, 1, 2, 3, 4, 5, 6, 7, 8, 9, 10, 11, 12, 13, 14, 15]⟩
     ·clear HM
      refine SZ ?_ ?_
      ·rintro b a w ⟨v909, v912, v915, ha, HM⟩ hb hon hoff K hK
       replace ha := Aside0.mk ha
       obtain ⟨_,_,_,_,_,_,_,_,_,_⟩ := bk5 (HM.bx 11 rfl)
       have e8 := PG ha 8
       exact VL (.agg #[.int .i64 t880, .int .i64 t881, .slice Xo26 t882.length ko26, .slice Xo27 t885.length ko27, .slice Xo28 t888.length ko28]) (hK.out _ _ ⟨v909, v912, v915, PUT ha 0 hb, HM⟩)
      refine SZ ?_ ?_
      ·rintro b a w ⟨v909, v912, v915, ha, HM⟩ hb hon hoff K hK
       replace ha := Aside0.mk ha
       obtain ⟨_,_,_,_,_,_,_,_,_,_⟩ := bk5 (HM.bx 9 rfl)
       have e3 := PG ha 3
       exact VL (.agg #[.int .i64 a1_0, .int .i64 a1_1, .slice A1_2 l1_2.length c1_2, .slice A1_3 l1_3.length c1_3, .slice A1_4 l1_4.length c1_4]) (hK.out _ _ ⟨v909, v912, v915, PUT ha 1 hb, HM⟩)
      refine SZ ?_ ?_
      ·rintro b a w ⟨v909, v912, v915, ha, HM⟩ hb hon hoff K hK
       replace ha := Aside0.mk ha
       have e49 := PE ha 1 hon
       refine ST (eC (some 50) rfl #[.agg #[.int .i64 a1_0, .int .i64 a1_1, .slice A1_2 l1_2.length c1_2, .slice A1_3 l1_3.length c1_3, .slice A1_4 l1_4.length c1_4]] rfl Try.func18 (laws_toThree.calls kj37 a1_0 a1_1 _ _ l1_2 _ _ l1_3 _ _ l1_4 t906 t907 t908 t911 t914 _ (HM.came HR1_2.out) HC1_2.out (HM.came HR1_3.out) HC1_3.out (HM.came HR1_4.out) HC1_4.out A45.out) ?_ (hargs := by (simp only [List.map_toArray, List.map_cons, List.map_nil, evc, eval_of e49]) <;> rfl))
       rintro e w56 ⟨v909, v912, v915, rfl, hR⟩
       refine ⟨_, rfl, ?_⟩
       replace HM := HM.call hR
       clear hR
       exact hK.out _ _ ⟨v909, v912, v915, PUT ha 2 hb, (HM).pick [0, 1, 2, 3, 4, 5, 6, 7, 8, 9, 10, 11, 12, 16, 17, 18]⟩
      refine SZ ?_ ?_
      ·rintro b a w ⟨v909, v912, v915, ha, HM⟩ hb hon hoff K hK
       replace ha := Aside0.mk ha
       replace HM := HM.sT 13 rfl (hon 2 rfl)
       replace HM := HM.sT 14 rfl (hon 2 rfl)
       replace HM := HM.sT 15 rfl (hon 2 rfl)
       obtain ⟨Xo58, ko58, rfl⟩ := HM.rdR 13 rfl
       obtain ⟨Xo59, ko59, rfl⟩ := HM.rdR 14 rfl
       obtain ⟨Xo60, ko60, rfl⟩ := HM.rdR 15 rfl
       have e48 := PE ha 0 hon
       have e50 := PE ha 2 hon
       refine ST (eC (some 51) rfl #[.agg #[.int .i64 t880, .int .i64 t881, .slice Xo26 t882.length ko26, .slice Xo27 t885.length ko27, .slice Xo28 t888.length ko28], .agg #[.int .i64 t906, .int .i64 t907, .slice Xo58 t908.length ko58, .slice Xo59 t911.length ko59, .slice Xo60 t914.length ko60]] rfl Try.func8 (laws_eqThree.calls kj37 t880 t881 _ _ t882 _ _ t885 _ _ t888 t906 t907 _ _ t908 _ _ t911 _ _ t914 t917 _ (HM.CR 3 rfl).2.2 (HM.CR 3 rfl).2.1 (HM.CR 4 rfl).2.2 (HM.CR 4 rfl).2.1 (HM.CR 5 rfl).2.2 (HM.CR 5 rfl).2.1 (HM.CR 13 rfl).2.2 (HM.CR 13 rfl).2.1 (HM.CR 14 rfl).2.2 (HM.CR 14 rfl).2.1 (HM.CR 15 rfl).2.2 (HM.CR 15 rfl).2.1 A46.out) ?_ (hargs := by (simp only [List.map_toArray, List.map_cons, List.map_nil, evc, eval_of e48, eval_of e50]) <;> rfl))
       rintro e w57 ⟨rfl, hR⟩
       refine ⟨_, rfl, ?_⟩
       replace HM := HM.call hR
       clear hR
       exact hK.out _ _ ⟨.slice Xo58 t908.length ko58, .slice Xo59 t911.length ko59, .slice Xo60 t914.length ko60, PUT ha 3 hb, (((HM.iT 13 rfl (hon 2 rfl)).iT 14 rfl (hon 2 rfl)).iT 15 rfl (hon 2 rfl)).pick [0, 1, 2, 3, 4, 5, 6, 7, 8, 9, 10, 11, 12, 13, 14, 15]⟩
      refine SZ ?_ ?_
      ·rintro b a w ⟨v909, v912, v915, ha, HM⟩ hb hon hoff K hK
       replace ha := Aside0.mk ha
       have e51 := PE ha 3 hon
       exact VL (.bool (!t917)) (hK.out _ _ ⟨v909, v912, v915, PUT ha 4 hb, HM⟩)
      exact steps_nil
     rintro _ w61 ⟨v909, v912, v915, rfl, HM⟩
     replace HM := HM.sT 13 rfl rfl
     replace HM := HM.sT 14 rfl rfl
     replace HM := HM.sT 15 rfl rfl
     simp only [putSel, if_true, Act.put, List.setIfInBounds_toArray, List.set_cons_zero, List.set_cons_succ, gt_iff_lt, ge_iff_le]
     replace H := GD H
     obtain ⟨c62, H⟩ := H
     subst c62
     replace H := BN H; obtain ⟨⟨t918, t919, t920, t921⟩, A64, H⟩ := H
     have HC66 := Aside0.mk H
     clear H
     obtain ⟨_,_,_,_,_,_,_,_,_,_⟩ := bk5 (HM.bx 11 rfl)
     go_upto_region 16 with (first | ((with_reducible refine gC 9 rfl ?_); refine pC (some 55) rfl #[.agg #[.int .i64 t880, .int .i64 t881, .slice Xo26 t882.length ko26, .slice Xo27 t885.length ko27, .slice Xo28 t888.length ko28], .int .i64 1] rfl Try.func9 (laws_markThree.calls kj37 t880 t881 (.slice Xo26 t882.length ko26) t882 (.slice Xo27 t885.length ko27) t885 (.slice Xo28 t888.length ko28) t888 1 t918 t919 t920 t921 _ _ _ (HM.focus [0, 1, 2, 6, 7, 8, 9, 10, 11, 12, 13, 14, 15] [3, 4, 5]) A64.out) ?_; rintro e w65 ⟨rfl, hR⟩; refine ⟨_, rfl, ?_⟩; replace HM := nzM hR.unfocus; clear hR))
     go_cut [68] (fun v68 wc => ∃ (kq : Nat) (x68_65 : Bool), v68 = .bool x68_65 ∧ Aside0 (laws_FnExactMend.j1 kq a0 t878 x68_65 a1_0 a1_1 l1_2 l1_3 l1_4 t867 t868 t869 t872 t875 t892 t893 t894 t897 t900 = some r) ∧ Aside0 (kq ≤ kj37) ∧ Mem w [] wc [rowR k76 76 (.slice Xo18 t869.length ko18) t869, rowR k76 76 (.slice Xo19 t872.length ko19) t872, rowR (Kd.int .i64) 3 (.slice Xo20 t875.length ko20) t875, rowR k76 76 (.slice Xo34 t894.length ko34) t894, rowR k76 76 (.slice Xo35 t897.length ko35) t897, rowR (Kd.int .i64) 3 (.slice Xo36 t900.length ko36) t900, box 42 gb854 [.int .i64 a1_0, .int .i64 a1_1, .slice A1_2 l1_2.length c1_2, .slice A1_3 l1_3.length c1_3, .slice A1_4 l1_4.length c1_4], box 25 gb879 [.int .i64 t867, .int .i64 t868, (.slice Xo18 t869.length ko18), (.slice Xo19 t872.length ko19), (.slice Xo20 t875.length ko20)], box 25 gb904 [.int .i64 t892, .int .i64 t893, (.slice Xo34 t894.length ko34), (.slice Xo35 t897.length ko35), (.slice Xo36 t900.length ko36)]])
     case first =>
      have H := HC66.out
      clear HC66
      replace H := IT H; rcases H with ⟨c67, H⟩ | ⟨c67, H⟩
      ·have c67b0 : decide (t918 < 0) = true := decide_eq_true c67
       clear c67
       have H' := Aside0.mk H
       clear H
       go_wp2
       go_meet
       case rel => exact ⟨_, (true), RS, H', ⟨by have := HJ37.out; first | omega | exact Nat.le_refl _⟩, (MD HM).pick [0, 1, 2, 3, 4, 5, 6, 7, 9]⟩
      ·have c67b0 : decide (t918 < 0) = false := decide_eq_false c67
       clear c67
       replace H := BN H; obtain ⟨t922, A70, H⟩ := H
       replace H := IB H
       rcases H with ⟨c72, H⟩ | ⟨c72, H⟩
       ·subst c72
        have H' := Aside0.mk H
        clear H
        obtain ⟨_,_,_,_,_,_,_,_,_,_⟩ := bk5 (HM.bx 9 rfl)
        obtain ⟨_,_,_,_,_,_,_,_,_,_⟩ := bk5 (HM.bx 7 rfl)
        go_wp2_with (first | ((with_reducible refine gC 8 rfl ?_); refine pC (some 61) rfl #[.agg #[.int .i64 t892, .int .i64 t893, .slice Xo34 t894.length ko34, .slice Xo35 t897.length ko35, .slice Xo36 t900.length ko36], .agg #[.int .i64 t867, .int .i64 t868, .slice Xo18 t869.length ko18, .slice Xo19 t872.length ko19, .slice Xo20 t875.length ko20]] rfl Try.func8 (laws_eqThree.calls kj37 t892 t893 _ _ t894 _ _ t897 _ _ t900 t867 t868 _ _ t869 _ _ t872 _ _ t875 true _ (HM.CR 3 rfl).2.2 (HM.CR 3 rfl).2.1 (HM.CR 4 rfl).2.2 (HM.CR 4 rfl).2.1 (HM.CR 5 rfl).2.2 (HM.CR 5 rfl).2.1 (HM.CR 0 rfl).2.2 (HM.CR 0 rfl).2.1 (HM.CR 1 rfl).2.2 (HM.CR 1 rfl).2.1 (HM.CR 2 rfl).2.2 (HM.CR 2 rfl).2.1 A70.out) ?_; rintro e w71 ⟨rfl, hR⟩; refine ⟨_, rfl, ?_⟩; replace HM := HM.call hR; clear hR))
        go_meet
        case rel => exact ⟨_, ((t903 != t878)), RS, H', ⟨by have := HJ37.out; first | omega | exact Nat.le_refl _⟩, (MD HM).pick [0, 1, 2, 3, 4, 5, 6, 7, 9]⟩
       ·subst c72
        have H' := Aside0.mk H
        clear H
        obtain ⟨_,_,_,_,_,_,_,_,_,_⟩ := bk5 (HM.bx 9 rfl)
        obtain ⟨_,_,_,_,_,_,_,_,_,_⟩ := bk5 (HM.bx 7 rfl)
        go_wp2_with (first | ((with_reducible refine gC 8 rfl ?_); refine pC (some 61) rfl #[.agg #[.int .i64 t892, .int .i64 t893, .slice Xo34 t894.length ko34, .slice Xo35 t897.length ko35, .slice Xo36 t900.length ko36], .agg #[.int .i64 t867, .int .i64 t868, .slice Xo18 t869.length ko18, .slice Xo19 t872.length ko19, .slice Xo20 t875.length ko20]] rfl Try.func8 (laws_eqThree.calls kj37 t892 t893 _ _ t894 _ _ t897 _ _ t900 t867 t868 _ _ t869 _ _ t872 _ _ t875 false _ (HM.CR 3 rfl).2.2 (HM.CR 3 rfl).2.1 (HM.CR 4 rfl).2.2 (HM.CR 4 rfl).2.1 (HM.CR 5 rfl).2.2 (HM.CR 5 rfl).2.1 (HM.CR 0 rfl).2.2 (HM.CR 0 rfl).2.1 (HM.CR 1 rfl).2.2 (HM.CR 1 rfl).2.1 (HM.CR 2 rfl).2.2 (HM.CR 2 rfl).2.1 A70.out) ?_; rintro e w71 ⟨rfl, hR⟩; refine ⟨_, rfl, ?_⟩; replace HM := HM.call hR; clear hR))
        go_meet
        case rel => exact ⟨_, (true), RS, H', ⟨by have := HJ37.out; first | omega | exact Nat.le_refl _⟩, (MD HM).pick [0, 1, 2, 3, 4, 5, 6, 7, 9]⟩
     case rest =>
      clear HC66 HM
      obtain ⟨kq, x68_65, rfl, HA, HJ65, HM⟩ := hcut
      cases kq with
      | zero => exact absurd HA.out (by simp [laws_FnExactMend.j1])
      | succ kj65 =>
       have H := HA.out
       clear HA
       simp only [laws_FnExactMend.j1] at H
       replace H := GN H
       obtain ⟨c73, H⟩ := H
       replace c73 := Bool.eq_false_iff.mpr c73
       subst c73
       replace H := BN H; obtain ⟨⟨t923, t924, t925, t926⟩, A75, H⟩ := H
       replace H := BN H; obtain ⟨t927, A78, H⟩ := H
       replace H := GN H; obtain ⟨c80, H⟩ := H
       have c80b0 : decide (t927 < 0) = false := decide_eq_false c80
       clear c80
       replace H := GD H; obtain ⟨c81, H⟩ := H
       have c81b0 : (t927 == t923) = true := beq_iff_eq.mpr c81
       have c81b1 : (t927 != t923) = false := bne_eq_false_iff_eq.mpr c81
       clear c81
       replace H := BN H; obtain ⟨⟨t928, t929, t930, t933, t936⟩, A83, H⟩ := H
       replace H := BN H; obtain ⟨⟨t939, t940, t941, t944, t947, t950⟩, A85, H⟩ := H
       have HC95 := Aside0.mk H
       clear H
       obtain ⟨_,_,_,_,_,_,_,_,_,_⟩ := bk5 (HM.bx 8 rfl)
       go_upto_region 27 with (first | ((with_reducible refine gC 9 rfl ?_); refine pC (some 71) rfl #[.agg #[.int .i64 t892, .int .i64 t893, .slice Xo34 t894.length ko34, .slice Xo35 t897.length ko35, .slice Xo36 t900.length ko36], .int .i64 1] rfl Try.func9 (laws_markThree.calls kj65 t892 t893 (.slice Xo34 t894.length ko34) t894 (.slice Xo35 t897.length ko35) t897 (.slice Xo36 t900.length ko36) t900 1 t923 t924 t925 t926 _ _ _ (HM.focus [0, 1, 2, 6, 7, 8] [3, 4, 5]) A75.out) ?_; rintro e w76 ⟨rfl, hR⟩; refine ⟨_, rfl, ?_⟩; replace HM := nzM hR.unfocus; clear hR; obtain ⟨_,_,_,_,_,_,_,_,_,_⟩ := bk5 (HM.bx 5 rfl)) | ((with_reducible refine gC 10 rfl ?_); refine pC (some 74) rfl #[.agg #[.int .i64 t892, .int .i64 t893, .slice Xo34 t924.length ko34, .slice Xo35 t925.length ko35, .slice Xo36 t926.length ko36], .int .i64 1] rfl Try.func10 (laws_heldThree.calls kj65 t892 t893 _ _ t924 _ _ t925 _ _ t926 1 t927 _ (HM.CR 6 rfl).2.2 (by rw [← (HM.CR 6 rfl).1]; exact (HM.CR 6 rfl).2.1) (HM.CR 7 rfl).2.2 (by rw [← (HM.CR 7 rfl).1]; exact (HM.CR 7 rfl).2.1) (HM.CR 8 rfl).2.2 (by rw [← (HM.CR 8 rfl).1]; exact (HM.CR 8 rfl).2.1) A78.out) ?_ (hargs := by (try simp only [List.map_toArray, List.map_cons, List.map_nil]); show (#[.agg #[.int .i64 t892, .int .i64 t893, .slice Xo34 t894.length ko34, .slice Xo35 t897.length ko35, .slice Xo36 t900.length ko36], .int .i64 1] : Array Value) = _; rw [(HM.CR 6 rfl).1, (HM.CR 7 rfl).1, (HM.CR 8 rfl).1]); rintro e w79 ⟨rfl, hR⟩; refine ⟨_, rfl, ?_⟩; replace HM := HM.call hR; clear hR; obtain ⟨_,_,_,_,_,_,_,_,_,_⟩ := bk5 (HM.bx 3 rfl)) | ((with_reducible refine gC 18 rfl ?_); refine pC (some 83) rfl #[.agg #[.int .i64 a1_0, .int .i64 a1_1, .slice A1_2 l1_2.length c1_2, .slice A1_3 l1_3.length c1_3, .slice A1_4 l1_4.length c1_4]] rfl Try.func18 (laws_toThree.calls kj65 a1_0 a1_1 _ _ l1_2 _ _ l1_3 _ _ l1_4 t928 t929 t930 t933 t936 _ (HM.came HR1_2.out) HC1_2.out (HM.came HR1_3.out) HC1_3.out (HM.came HR1_4.out) HC1_4.out A83.out) ?_; rintro e w84 ⟨v931, v934, v937, rfl, hR⟩; refine ⟨_, rfl, ?_⟩; replace HM := HM.call hR; clear hR; obtain ⟨Xo87, ko87, rfl⟩ := HM.rdR 9 rfl; obtain ⟨Xo88, ko88, rfl⟩ := HM.rdR 10 rfl; obtain ⟨Xo89, ko89, rfl⟩ := HM.rdR 11 rfl) | ((with_reducible refine gC 19 rfl ?_); refine pC (some 84) rfl #[.string a0, .agg #[.int .i64 t928, .int .i64 t929, .slice Xo87 t930.length ko87, .slice Xo88 t933.length ko88, .slice Xo89 t936.length ko89]] rfl Try.func19 (impl_Mend.calls kj65 a0 t928 t929 _ _ t930 _ _ t933 _ _ t936 t939 t940 t941 t944 t947 t950 _ (HM.CR 9 rfl).2.2 (HM.CR 9 rfl).2.1 (HM.CR 10 rfl).2.2 (HM.CR 10 rfl).2.1 (HM.CR 11 rfl).2.2 (HM.CR 11 rfl).2.1 A85.out) ?_; rintro e w86 ⟨v942, v945, v948, rfl, hR⟩; refine ⟨_, rfl, ?_⟩; replace HM := HM.call hR; clear hR) | ((with_reducible refine gN 14 rfl ?_); refine pB 14 25 [.int .i64 0, .int .i64 0, .slice none 0 0, .slice none 0 0, .slice none 0 0] HM rfl ?_; clear HM; intro gb951 w90 HM; obtain ⟨Xo91, ko91, rfl⟩ := HM.rdR 12 rfl; obtain ⟨Xo92, ko92, rfl⟩ := HM.rdR 13 rfl; obtain ⟨Xo93, ko93, rfl⟩ := HM.rdR 14 rfl) | ((with_reducible refine gS 14 rfl ?_); refine pS 15 14 0 [.int .i64 t939, .int .i64 t940, .slice Xo91 t941.length ko91, .slice Xo92 t944.length ko92, .slice Xo93 t947.length ko93] HM rfl rfl ?_; clear HM; intro w94 HM))
       replace HM := nzM HM
       try simp only [Act.put, List.setIfInBounds_toArray, List.set_cons_zero, List.set_cons_succ]
       go_cut [95] (fun v95 wc => ∃ (kq : Nat) (x95_94 : Bool), v95 = .bool x95_94 ∧ Aside0 (laws_FnExactMend.j2 kq t923 x95_94 t892 t893 t924 t925 t926 = some r) ∧ Aside0 (kq ≤ kj65) ∧ Mem w [] wc [rowR k76 76 (.slice Xo34 t894.length ko34) t924, rowR k76 76 (.slice Xo35 t897.length ko35) t925, rowR (Kd.int .i64) 3 (.slice Xo36 t900.length ko36) t926, box 25 gb904 [.int .i64 t892, .int .i64 t893, (.slice Xo34 t894.length ko34), (.slice Xo35 t897.length ko35), (.slice Xo36 t900.length ko36)]])
       case first =>
        have H := HC95.out
        clear HC95
        replace H := BN H; obtain ⟨t952, A98, H⟩ := H
        replace H := IB H
        rcases H with ⟨c100, H⟩ | ⟨c100, H⟩
        ·subst c100
         have H' := Aside0.mk H
         clear H
         obtain ⟨_,_,_,_,_,_,_,_,_,_⟩ := bk5 (HM.bx 15 rfl)
         obtain ⟨_,_,_,_,_,_,_,_,_,_⟩ := bk5 (HM.bx 4 rfl)
         go_wp2_with (first | ((with_reducible refine gC 8 rfl ?_); refine pC (some 89) rfl #[.agg #[.int .i64 t939, .int .i64 t940, .slice Xo91 t941.length ko91, .slice Xo92 t944.length ko92, .slice Xo93 t947.length ko93], .agg #[.int .i64 t867, .int .i64 t868, .slice Xo18 t869.length ko18, .slice Xo19 t872.length ko19, .slice Xo20 t875.length ko20]] rfl Try.func8 (laws_eqThree.calls kj65 t939 t940 _ _ t941 _ _ t944 _ _ t947 t867 t868 _ _ t869 _ _ t872 _ _ t875 true _ (HM.CR 12 rfl).2.2 (HM.CR 12 rfl).2.1 (HM.CR 13 rfl).2.2 (HM.CR 13 rfl).2.1 (HM.CR 14 rfl).2.2 (HM.CR 14 rfl).2.1 (HM.CR 0 rfl).2.2 (HM.CR 0 rfl).2.1 (HM.CR 1 rfl).2.2 (HM.CR 1 rfl).2.1 (HM.CR 2 rfl).2.2 (HM.CR 2 rfl).2.1 A98.out) ?_; rintro e w99 ⟨rfl, hR⟩; refine ⟨_, rfl, ?_⟩; replace HM := HM.call hR; clear hR))
         go_meet
         case rel => exact ⟨_, ((t950 != t878)), RS, H', ⟨by have := HJ37.out; have := HJ65.out; first | omega | exact Nat.le_refl _⟩, (MD HM).pick [6, 7, 8, 5]⟩
        ·subst c100
         have H' := Aside0.mk H
         clear H
         obtain ⟨_,_,_,_,_,_,_,_,_,_⟩ := bk5 (HM.bx 15 rfl)
         obtain ⟨_,_,_,_,_,_,_,_,_,_⟩ := bk5 (HM.bx 4 rfl)
         go_wp2_with (first | ((with_reducible refine gC 8 rfl ?_); refine pC (some 89) rfl #[.agg #[.int .i64 t939, .int .i64 t940, .slice Xo91 t941.length ko91, .slice Xo92 t944.length ko92, .slice Xo93 t947.length ko93], .agg #[.int .i64 t867, .int .i64 t868, .slice Xo18 t869.length ko18, .slice Xo19 t872.length ko19, .slice Xo20 t875.length ko20]] rfl Try.func8 (laws_eqThree.calls kj65 t939 t940 _ _ t941 _ _ t944 _ _ t947 t867 t868 _ _ t869 _ _ t872 _ _ t875 false _ (HM.CR 12 rfl).2.2 (HM.CR 12 rfl).2.1 (HM.CR 13 rfl).2.2 (HM.CR 13 rfl).2.1 (HM.CR 14 rfl).2.2 (HM.CR 14 rfl).2.1 (HM.CR 0 rfl).2.2 (HM.CR 0 rfl).2.1 (HM.CR 1 rfl).2.2 (HM.CR 1 rfl).2.1 (HM.CR 2 rfl).2.2 (HM.CR 2 rfl).2.1 A98.out) ?_; rintro e w99 ⟨rfl, hR⟩; refine ⟨_, rfl, ?_⟩; replace HM := HM.call hR; clear hR))
         go_meet
         case rel => exact ⟨_, (true), RS, H', ⟨by have := HJ37.out; have := HJ65.out; first | omega | exact Nat.le_refl _⟩, (MD HM).pick [6, 7, 8, 5]⟩
       case rest =>
        clear HC95 HM
        obtain ⟨kq, x95_94, rfl, HA, HJ94, HM⟩ := hcut
        cases kq with
        | zero => exact absurd HA.out (by simp [laws_FnExactMend.j2])
        | succ kj94 =>
         have H := HA.out
         clear HA
         simp only [laws_FnExactMend.j2] at H
         replace H := GN H
         obtain ⟨c101, H⟩ := H
         replace c101 := Bool.eq_false_iff.mpr c101
         subst c101
         replace H := BN H; obtain ⟨t953, A103, H⟩ := H
         replace H := GN H; obtain ⟨c105, H⟩ := H
         have c105b0 : decide (t953 < 0) = false := decide_eq_false c105
         clear c105
         replace H := GD H; obtain ⟨c106, H⟩ := H
         have c106b0 : (t953 == t923) = true := beq_iff_eq.mpr c106
         have c106b1 : (t953 != t923) = false := bne_eq_false_iff_eq.mpr c106
         clear c106
         obtain rfl := Option.some.inj H
         obtain ⟨_,_,_,_,_,_,_,_,_,_⟩ := bk5 (HM.bx 3 rfl)
         go_wp2_with (first | ((with_reducible refine gC 10 rfl ?_); refine pC (some 98) rfl #[.agg #[.int .i64 t892, .int .i64 t893, .slice Xo34 t924.length ko34, .slice Xo35 t925.length ko35, .slice Xo36 t926.length ko36], .int .i64 1] rfl Try.func10 (laws_heldThree.calls kj94 t892 t893 _ _ t924 _ _ t925 _ _ t926 1 t953 _ (HM.CR 0 rfl).2.2 (by rw [← (HM.CR 0 rfl).1]; exact (HM.CR 0 rfl).2.1) (HM.CR 1 rfl).2.2 (by rw [← (HM.CR 1 rfl).1]; exact (HM.CR 1 rfl).2.1) (HM.CR 2 rfl).2.2 (by rw [← (HM.CR 2 rfl).1]; exact (HM.CR 2 rfl).2.1) A103.out) ?_ (hargs := by (try simp only [List.map_toArray, List.map_cons, List.map_nil]); show (#[.agg #[.int .i64 t892, .int .i64 t893, .slice Xo34 t894.length ko34, .slice Xo35 t897.length ko35, .slice Xo36 t900.length ko36], .int .i64 1] : Array Value) = _; rw [(HM.CR 0 rfl).1, (HM.CR 1 rfl).1, (HM.CR 2 rfl).1]); rintro e w104 ⟨rfl, hR⟩; refine ⟨_, rfl, ?_⟩; replace HM := HM.call hR; clear hR))
         go_ret
         exact ⟨ER, HM.bel⟩
end Go.Proofs.Ytnlnifpehndacaa.G
