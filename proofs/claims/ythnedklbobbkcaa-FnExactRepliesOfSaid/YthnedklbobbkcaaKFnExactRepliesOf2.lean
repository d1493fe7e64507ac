/- Part 2 of the claim FnExactRepliesOf, merged by pack.py (this session's program) out of: the print's words, cut to what is needed; texts that gen.py printed (it runs the kit's print in place); texts of this session. -/
import Derived.Test.YthnedklbobbkcaaKFnExactRepliesOf1
namespace Go.Proofs.Ythnedklbobbkcaa.Mm
end Go.Proofs.Ythnedklbobbkcaa.Mm
namespace Go.Proofs.Ythnedklbobbkcaa.Sh
end Go.Proofs.Ythnedklbobbkcaa.Sh
set_option maxHeartbeats 8000000
set_option maxRecDepth 100000
namespace Go.Proofs.Ythnedklbobbkcaa.G
open Go.RowKit Go.Proofs.YthnedklbobbkcaaW.PrintWords Go.Proofs.YthnedklbobbkcaaW.PrintLast Go.Proofs.YthnedklbobbkcaaW.PrintMore Go.Proofs.Ythnedklbobbkcaa.Sh
attribute [local go_sem] max2_int min2_int max_two min_two max_three min_three max_four min_four
set_option linter.unusedVariables false
set_option linter.unusedSimpArgs false
def impl_within.f (a0 : Int) (a1 : Int) (a2 : Int) : Option (Bool) := if a0 ≥ a1 then (some (decide (a0 ≤ a2))) else (some false)
theorem impl_within.calls (a0 : Int) (a1 : Int) (a2 : Int) (r : Bool) (w : World) (h : impl_within.f a0 a1 a2 = some r) :
  Calls Try.prog 92 #[.int .i64 a0, .int .i64 a1, .int .i64 a2] w fun e w' => e = .returned (.bool r) ∧ Drawn0 w w' := by
 have H : (if a0 ≥ a1 then (some (decide (a0 ≤ a2))) else (some false)) = some r := h
 clear h
 by_cases c4 : a0 ≥ a1
 ·rw [if_pos c4] at H
  have c4b0 : decide (a1 ≤ a0) = true := decide_eq_true c4
  clear c4
  obtain rfl := Option.some.inj H
  go_enter Try.func92, Try.ntmps92
  go_wp2
  go_ret
  exact ⟨by first | rfl | (simp; done) | (simp [*]; done), DR⟩
 ·rw [if_neg c4] at H
  have c4b0 : decide (a1 ≤ a0) = false := decide_eq_false c4
  clear c4
  obtain rfl := Option.some.inj H
  go_enter Try.func92, Try.ntmps92
  go_wp2
  go_ret
  exact ⟨by first | rfl | (simp; done) | (simp [*]; done), DR⟩
end Go.Proofs.Ythnedklbobbkcaa.G

namespace Go.Proofs.Ythnedklbobbkcaa.G
open Go.RowKit Go.Proofs.YthnedklbobbkcaaW.PrintWords Go.Proofs.YthnedklbobbkcaaW.PrintLast Go.Proofs.YthnedklbobbkcaaW.PrintMore Go.Proofs.Ythnedklbobbkcaa.Sh
attribute [local go_sem] max2_int min2_int max_two min_two max_three min_three max_four min_four
set_option linter.unusedVariables false
set_option linter.unusedSimpArgs false
open Go.Proofs.Ythnedklbobbkcaa.Mm
def impl_RepliesOf.f (a0_0 : Int) (a0_1 : Int) (l0_2 : List (S122)) (l0_3 : List (S122)) (l0_4 : List Int) (l0_5 : List Int) (a0_6 : Int) (l0_7 : List Int) (l0_8 : List (S242)) (l0_9 : List Int) (l0_10 : List (S188)) (l0_11 : List (S135)) (l0_12 : List (S191)) (a1 : Int) : Option ((List (S150))) := (impl_within.f a1 0 (wrap64 ((l0_11.length : Int) - 1))).bind fun t1856 => (if t1856 = true then (if 0 ≤ a1 then (if a1 < (l0_11.length : Int) then (if ([] : List (S150)).length + ((rd_T135 l0_11 a1).f4).length < 3518437208883 then (some (([] : List (S150)) ++ ((rd_T135 l0_11 a1).f4))) else (none)) else (none)) else (none)) else (some ([] : List (S150))))
theorem impl_RepliesOf.calls (a0_0 : Int) (a0_1 : Int) (A0_2 : Option Addr) (c0_2 : Nat) (l0_2 : List (S122)) (A0_3 : Option Addr) (c0_3 : Nat) (l0_3 : List (S122)) (A0_4 : Option Addr) (c0_4 : Nat) (l0_4 : List Int) (A0_5 : Option Addr) (c0_5 : Nat) (l0_5 : List Int) (a0_6 : Int) (A0_7 : Option Addr) (c0_7 : Nat) (l0_7 : List Int) (A0_8 : Option Addr) (c0_8 : Nat) (l0_8 : List (S242)) (A0_9 : Option Addr) (c0_9 : Nat) (l0_9 : List Int) (A0_10 : Option Addr) (c0_10 : Nat) (l0_10 : List (S188)) (A0_11 : Option Addr) (c0_11 : Nat) (l0_11 : List (S135)) (A0_12 : Option Addr) (c0_12 : Nat) (l0_12 : List (S191)) (a1 : Int) (r : List (S150)) (w : World) (hr0_2 : Kd.C k122 w A0_2 l0_2.length l0_2) (hc0_2 : l0_2.length ≤ c0_2) (hr0_3 : Kd.C k122 w A0_3 l0_3.length l0_3) (hc0_3 : l0_3.length ≤ c0_3) (hr0_4 : Kd.C (Kd.int .i64) w A0_4 l0_4.length l0_4) (hc0_4 : l0_4.length ≤ c0_4) (hr0_5 : Kd.C (Kd.int .i64) w A0_5 l0_5.length l0_5) (hc0_5 : l0_5.length ≤ c0_5) (hr0_7 : Kd.C (Kd.int .i64) w A0_7 l0_7.length l0_7) (hc0_7 : l0_7.length ≤ c0_7) (hr0_8 : Kd.C k242 w A0_8 l0_8.length l0_8) (hc0_8 : l0_8.length ≤ c0_8) (hr0_9 : Kd.C (Kd.int .i64) w A0_9 l0_9.length l0_9) (hc0_9 : l0_9.length ≤ c0_9) (hr0_10 : Kd.C k188 w A0_10 l0_10.length l0_10) (hc0_10 : l0_10.length ≤ c0_10) (hr0_11 : Kd.C k135 w A0_11 l0_11.length l0_11) (hc0_11 : l0_11.length ≤ c0_11) (hr0_12 : Kd.C k191 w A0_12 l0_12.length l0_12) (hc0_12 : l0_12.length ≤ c0_12) (h : impl_RepliesOf.f a0_0 a0_1 l0_2 l0_3 l0_4 l0_5 a0_6 l0_7 l0_8 l0_9 l0_10 l0_11 l0_12 a1 = some r) :
  Calls Try.prog 38 #[.agg #[.int .i64 a0_0, .int .i64 a0_1, .slice A0_2 l0_2.length c0_2, .slice A0_3 l0_3.length c0_3, .slice A0_4 l0_4.length c0_4, .slice A0_5 l0_5.length c0_5, .int .i64 a0_6, .slice A0_7 l0_7.length c0_7, .slice A0_8 l0_8.length c0_8, .slice A0_9 l0_9.length c0_9, .slice A0_10 l0_10.length c0_10, .slice A0_11 l0_11.length c0_11, .slice A0_12 l0_12.length c0_12], .int .i64 a1] w fun e w' => ∃ v0_ : Value, e = .returned (v0_) ∧ Mem w [] w' [rowR k150 150 v0_ r] := by
 have hu82 := Try.underlying82
 have HR0_2 := Aside0.mk hr0_2
 have HC0_2 := Aside0.mk hc0_2
 clear hr0_2 hc0_2
 have HR0_3 := Aside0.mk hr0_3
 have HC0_3 := Aside0.mk hc0_3
 clear hr0_3 hc0_3
 have HR0_4 := Aside0.mk hr0_4
 have HC0_4 := Aside0.mk hc0_4
 clear hr0_4 hc0_4
 have HR0_5 := Aside0.mk hr0_5
 have HC0_5 := Aside0.mk hc0_5
 clear hr0_5 hc0_5
 have HR0_7 := Aside0.mk hr0_7
 have HC0_7 := Aside0.mk hc0_7
 clear hr0_7 hc0_7
 have HR0_8 := Aside0.mk hr0_8
 have HC0_8 := Aside0.mk hc0_8
 clear hr0_8 hc0_8
 have HR0_9 := Aside0.mk hr0_9
 have HC0_9 := Aside0.mk hc0_9
 clear hr0_9 hc0_9
 have HR0_10 := Aside0.mk hr0_10
 have HC0_10 := Aside0.mk hc0_10
 clear hr0_10 hc0_10
 have HR0_11 := Aside0.mk hr0_11
 have HC0_11 := Aside0.mk hc0_11
 clear hr0_11 hc0_11
 have HR0_12 := Aside0.mk hr0_12
 have HC0_12 := Aside0.mk hc0_12
 clear hr0_12 hc0_12
 have HM := Mem.nil w
 have H := h
 clear h
 unfold impl_RepliesOf.f at H
 go_enter Try.func38, Try.ntmps38
 replace H := BN H; obtain ⟨t1856, A5, H⟩ := H
 go_upto_if 11 with (first | ((with_reducible refine gN 2 rfl ?_); refine pB 2 82 [.int .i64 a0_0, .int .i64 a0_1, .slice A0_2 l0_2.length c0_2, .slice A0_3 l0_3.length c0_3, .slice A0_4 l0_4.length c0_4, .slice A0_5 l0_5.length c0_5, .int .i64 a0_6, .slice A0_7 l0_7.length c0_7, .slice A0_8 l0_8.length c0_8, .slice A0_9 l0_9.length c0_9, .slice A0_10 l0_10.length c0_10, .slice A0_11 l0_11.length c0_11, .slice A0_12 l0_12.length c0_12] HM rfl ?_; clear HM; intro gb1855 w3 HM; obtain ⟨_,_,_,_,_,_,_,_,_,_,_,_,_,_,_,_,_,_,_,_,_,_,_,_,_,_⟩ := bk13 (HM.bx 0 rfl)) | ((with_reducible refine gC 92 rfl ?_); refine pC (some 10) rfl #[.int .i64 a1, .int .i64 0, .int .i64 (wrap64 ((l0_11.length : Int) - 1))] rfl Try.func92 (impl_within.calls a1 0 (wrap64 ((l0_11.length : Int) - 1)) t1856 _ A5.out) ?_; rintro e w6 ⟨rfl, hd⟩; refine ⟨_, rfl, ?_⟩; replace HM := HM.drawn hd; clear hd))
 replace H := IB H
 rcases H with ⟨c7, H⟩ | ⟨c7, H⟩
 ·subst c7
  replace H := GD H; obtain ⟨c9, H⟩ := H
  have c9b0 := decide_eq_true c9
  clear c9
  replace H := GD H; obtain ⟨c10, H⟩ := H
  have c10b0 := decide_eq_true c10
  clear c10
  replace H := GD H; obtain ⟨c11, H⟩ := H
  have LMc11 := Aside0.mk c11
  clear c11
  obtain rfl := Option.some.inj H
  obtain ⟨_,_,_,_,_,_,_,_,_,_,_,_,_,_,_,_,_,_,_,_,_,_,_,_,_,_⟩ := bk13 (HM.bx 0 rfl)
  have p1857 : 0 ≤ (a1 : Int) := of_decide_eq_true AS
  have q1857 : (a1 : Int) < (l0_11.length : Int) := of_decide_eq_true AS
  obtain ⟨ad1857, A1857_0, c1857_0, A1857_4, c1857_4, e1857, hw1857_0, hw1857_1, hw1857_2, hw1857_3, hw1857_4, l1857_0, g1857_0, l1857_4, g1857_4⟩ := at_T135 HR0_11.out a1 p1857 q1857
  cases e1857
  have hx1857_0 := HM.cell hw1857_0
  have hx1857_1 := HM.cell hw1857_1
  have hx1857_2 := HM.cell hw1857_2
  have hx1857_3 := HM.cell hw1857_3
  have hx1857_4 := HM.cell hw1857_4
  replace p1857 := eq_true p1857
  replace q1857 := eq_true q1857
  go_wp2_with (first | ((with_reducible refine gate_builtin (b := .append) (xs := #[.const (.slice none 0 0), .tmp 17]) rfl ?_); refine pAn (.const (.slice none 0 0)) (.tmp 17) 89 150 k150 ((rd_T135 l0_11 a1).f4) A1857_4 (((rd_T135 l0_11 a1).f4).length) c1857_4 HM rfl Try.underlying89 info150 (HM.came g1857_4) (by have h_ := LMc11.out; omega) ?_; clear HM; intro v1859 w12 HM))
  go_ret
  exact ⟨_, ER, (MD HM).pick [1]⟩
 ·subst c7
  obtain rfl := Option.some.inj H
  replace HM := HM.nl k150 150
  go_wp2
  go_ret
  exact ⟨_, ER, (MD HM).pick [1]⟩
def laws_szOp.f (a0_0 : Int) (a0_1 : ByteArray) (a0_2 : ByteArray) (a1 : Int) : Option (Int) := if (wrap64 (a1 - (a0_1.size : Int))) < 0 then (some (-1)) else (if (wrap64 ((wrap64 (a1 - (a0_1.size : Int))) - (a0_2.size : Int))) < 0 then (some (-1)) else (some (wrap64 ((wrap64 (a1 - (a0_1.size : Int))) - (a0_2.size : Int)))))
theorem laws_szOp.calls (a0_0 : Int) (a0_1 : ByteArray) (a0_2 : ByteArray) (a1 : Int) (r : Int) (w : World)  (h : laws_szOp.f a0_0 a0_1 a0_2 a1 = some r) :
  Calls Try.prog 183 #[.agg #[.int .i64 a0_0, .string a0_1, .string a0_2], .int .i64 a1] w fun e w' => e = .returned (.int .i64 r) ∧ Mem w [] w' [] := by
 have hu228 := Try.underlying228
 have HM := Mem.nil w
 have H := h
 clear h
 unfold laws_szOp.f at H
 go_enter Try.func183, Try.ntmps183
 go_upto_if 11 with (first | ((with_reducible refine gN 2 rfl ?_); refine pB 2 228 [.int .i64 a0_0, .string a0_1, .string a0_2] HM rfl ?_; clear HM; intro gb1332 w3 HM; obtain ⟨_,_,_,_,_,_⟩ := bk3 (HM.bx 0 rfl)))
 replace H := IT H; rcases H with ⟨c5, H⟩ | ⟨c5, H⟩
 ·have c5b0 := decide_eq_true c5
  clear c5
  first|rw [c5b0]|(simp only [i64_w, i32_w]; rw [c5b0])|skip
  obtain rfl := Option.some.inj H
  go_wp2
  go_ret
  exact ⟨ER, (MD HM).pick []⟩
 ·have c5b0 := decide_eq_false c5
  clear c5
  first|rw [c5b0]|(simp only [i64_w, i32_w]; rw [c5b0])|skip
  go_upto_if 18 with (fail)
  replace H := IT H; rcases H with ⟨c6, H⟩ | ⟨c6, H⟩
  ·have c6b0 := decide_eq_true c6
   clear c6
   first|rw [c6b0]|(simp only [i64_w, i32_w]; rw [c6b0])|skip
   obtain rfl := Option.some.inj H
   go_wp2
   go_ret
   exact ⟨ER, (MD HM).pick []⟩
  ·have c6b0 := decide_eq_false c6
   clear c6
   first|rw [c6b0]|(simp only [i64_w, i32_w]; rw [c6b0])|skip
   obtain rfl := Option.some.inj H
   go_wp2
   go_ret
   exact ⟨ER, (MD HM).pick []⟩
def laws_szOpS.l0 : Nat → List (S228) → Int → Int → Option (Int)
 | 0, _, _, _ => none
 | k + 1, x0, x1, x5 => if x5 < (x0.length : Int) then (if 0 ≤ x5 then ((laws_szOp.f ((rd_T228 x0 x5).f0) ((rd_T228 x0 x5).f1) ((rd_T228 x0 x5).f2) x1).bind fun t1334 => (if t1334 < 0 then (some (-1)) else (laws_szOpS.l0 k x0 t1334 (wrap64 (x5 + 1))))) else (none)) else (some x1)
def laws_szOpS.f (k : Nat) (l0 : List (S228)) (a1 : Int) : Option (Int) := if (wrap64 (a1 - (l0.length : Int))) < 0 then (some (-1)) else (laws_szOpS.l0 k l0 (wrap64 (a1 - (l0.length : Int))) 0)
theorem laws_szOpS.calls (k : Nat) (A0 : Option Addr) (c0 : Nat) (l0 : List (S228)) (a1 : Int) (r : Int) (w : World) (hr0 : Kd.C k228 w A0 l0.length l0) (hc0 : l0.length ≤ c0) (h : laws_szOpS.f k l0 a1 = some r) :
  Calls Try.prog 145 #[.slice A0 l0.length c0, .int .i64 a1] w fun e w' => e = .returned (.int .i64 r) ∧ Mem w [] w' [] := by
 have hu228 := Try.underlying228
 have HR0 := Aside0.mk hr0
 have HC0 := Aside0.mk hc0
 clear hr0 hc0
 have HM := Mem.nil w
 have H := h
 clear h
 unfold laws_szOpS.f at H
 go_enter Try.func145, Try.ntmps145
 go_upto_if 11 with (fail)
 replace H := IT H; rcases H with ⟨c3, H⟩ | ⟨c3, H⟩
 ·have c3b0 := decide_eq_true c3
  clear c3
  first|rw [c3b0]|(simp only [i64_w, i32_w]; rw [c3b0])|skip
  obtain rfl := Option.some.inj H
  go_wp2
  go_ret
  exact ⟨ER, (MD HM).pick []⟩
 ·have c3b0 := decide_eq_false c3
  clear c3
  first|rw [c3b0]|(simp only [i64_w, i32_w]; rw [c3b0])|skip
  have H' := Aside0.mk H
  clear H
  go_wp2
  go_loopg [1, 5] k (fun kq v1 v5 w' => ∃ (x1_1 : Int) (x5_1 : Int), v1 = .int .i64 x1_1 ∧ v5 = .int .i64 x5_1 ∧ Aside0 (laws_szOpS.l0 kq l0 x1_1 x5_1 = some r) ∧ Aside0 (kq ≤ k) ∧ Mem w [] w' [])
  case atStart => exact ⟨(wrap64 (a1 - (l0.length : Int))), (0), RS, RS, H', ⟨Nat.le_refl _⟩, (MD HM).pick []⟩
  case round =>
   clear H' HM
   obtain ⟨x1_1, x5_1, rfl, rfl, HA, HK1, HM⟩ := hrel
   cases gk with
   | zero => exact absurd HA.out (by simp [laws_szOpS.l0])
   | succ k1 =>
    have H := HA.out
    clear HA
    simp only [laws_szOpS.l0] at H
    go_upto_if 15 with (fail)
    replace H := IT H; rcases H with ⟨c4, H⟩ | ⟨c4, H⟩
    ·have c4b0 := decide_eq_true c4
     clear c4
     first|rw [c4b0]|(simp only [i64_w, i32_w]; rw [c4b0])|skip
     replace H := GD H; obtain ⟨c5, H⟩ := H
     have c5b0 := decide_eq_true c5
     clear c5
     replace H := BN H; obtain ⟨t1334, A6, H⟩ := H
     have p1333 : 0 ≤ (x5_1 : Int) := of_decide_eq_true AS
     have q1333 : (x5_1 : Int) < (l0.length : Int) := of_decide_eq_true AS
     obtain ⟨ad1333, e1333, hx1333_0, hx1333_1, hx1333_2⟩ := at_T228 (HM.came HR0.out) x5_1 p1333 q1333
     cases e1333
     replace p1333 := eq_true p1333
     replace q1333 := eq_true q1333
     go_upto_if 25 with (first | ((with_reducible refine gC 183 rfl ?_); refine pC (some 23) rfl #[.agg #[.int .i64 ((rd_T228 l0 x5_1).f0), .string ((rd_T228 l0 x5_1).f1), .string ((rd_T228 l0 x5_1).f2)], .int .i64 x1_1] rfl Try.func183 (laws_szOp.calls ((rd_T228 l0 x5_1).f0) ((rd_T228 l0 x5_1).f1) ((rd_T228 l0 x5_1).f2) x1_1 t1334 _ A6.out) ?_; rintro e w7 ⟨rfl, hR⟩; refine ⟨_, rfl, ?_⟩; replace HM := HM.call hR; clear hR))
     replace H := IT H; rcases H with ⟨c8, H⟩ | ⟨c8, H⟩
     ·have c8b0 := decide_eq_true c8
      clear c8
      first|rw [c8b0]|(simp only [i64_w, i32_w]; rw [c8b0])|skip
      obtain rfl := Option.some.inj H
      go_wp2
      go_ret
      exact ⟨ER, (MD HM).pick []⟩
     ·have c8b0 := decide_eq_false c8
      clear c8
      first|rw [c8b0]|(simp only [i64_w, i32_w]; rw [c8b0])|skip
      have H' := Aside0.mk H
      clear H
      go_wp2
      go_roundg k1
      case measure => have := HK1.out; omega
      case rel => exact ⟨(t1334), (wrap64 (x5_1 + 1)), RS, RS, H', ⟨by have := HK1.out; omega⟩, (MD HM).pick []⟩
    ·have c4b0 := decide_eq_false c4
     clear c4
     first|rw [c4b0]|(simp only [i64_w, i32_w]; rw [c4b0])|skip
     obtain rfl := Option.some.inj H
     go_wp2
     go_ret
     exact ⟨ER, (MD HM).pick []⟩
def laws_szReply.f (a0_0 : Bool) (a0_1 : ByteArray) (a0_2 : ByteArray) (a1 : Int) : Option (Int) := if (wrap64 (a1 - (a0_1.size : Int))) < 0 then (some (-1)) else (if (wrap64 ((wrap64 (a1 - (a0_1.size : Int))) - (a0_2.size : Int))) < 0 then (some (-1)) else (some (wrap64 ((wrap64 (a1 - (a0_1.size : Int))) - (a0_2.size : Int)))))
theorem laws_szReply.calls (a0_0 : Bool) (a0_1 : ByteArray) (a0_2 : ByteArray) (a1 : Int) (r : Int) (w : World)  (h : laws_szReply.f a0_0 a0_1 a0_2 a1 = some r) :
  Calls Try.prog 184 #[.agg #[.bool a0_0, .string a0_1, .string a0_2], .int .i64 a1] w fun e w' => e = .returned (.int .i64 r) ∧ Mem w [] w' [] := by
 have hu230 := Try.underlying230
 have HM := Mem.nil w
 have H := h
 clear h
 unfold laws_szReply.f at H
 go_enter Try.func184, Try.ntmps184
 go_upto_if 11 with (first | ((with_reducible refine gN 2 rfl ?_); refine pB 2 230 [.bool a0_0, .string a0_1, .string a0_2] HM rfl ?_; clear HM; intro gb1335 w3 HM; obtain ⟨_,_,_,_,_,_⟩ := bk3 (HM.bx 0 rfl)))
 replace H := IT H; rcases H with ⟨c5, H⟩ | ⟨c5, H⟩
 ·have c5b0 := decide_eq_true c5
  clear c5
  first|rw [c5b0]|(simp only [i64_w, i32_w]; rw [c5b0])|skip
  obtain rfl := Option.some.inj H
  go_wp2
  go_ret
  exact ⟨ER, (MD HM).pick []⟩
 ·have c5b0 := decide_eq_false c5
  clear c5
  first|rw [c5b0]|(simp only [i64_w, i32_w]; rw [c5b0])|skip
  go_upto_if 18 with (fail)
  replace H := IT H; rcases H with ⟨c6, H⟩ | ⟨c6, H⟩
  ·have c6b0 := decide_eq_true c6
   clear c6
   first|rw [c6b0]|(simp only [i64_w, i32_w]; rw [c6b0])|skip
   obtain rfl := Option.some.inj H
   go_wp2
   go_ret
   exact ⟨ER, (MD HM).pick []⟩
  ·have c6b0 := decide_eq_false c6
   clear c6
   first|rw [c6b0]|(simp only [i64_w, i32_w]; rw [c6b0])|skip
   obtain rfl := Option.some.inj H
   go_wp2
   go_ret
   exact ⟨ER, (MD HM).pick []⟩
def laws_szReplyS.l0 : Nat → List (S230) → Int → Int → Option (Int)
 | 0, _, _, _ => none
 | k + 1, x0, x1, x5 => if x5 < (x0.length : Int) then (if 0 ≤ x5 then ((laws_szReply.f ((rd_T230 x0 x5).f0) ((rd_T230 x0 x5).f1) ((rd_T230 x0 x5).f2) x1).bind fun t1337 => (if t1337 < 0 then (some (-1)) else (laws_szReplyS.l0 k x0 t1337 (wrap64 (x5 + 1))))) else (none)) else (some x1)
def laws_szReplyS.f (k : Nat) (l0 : List (S230)) (a1 : Int) : Option (Int) := if (wrap64 (a1 - (l0.length : Int))) < 0 then (some (-1)) else (laws_szReplyS.l0 k l0 (wrap64 (a1 - (l0.length : Int))) 0)
theorem laws_szReplyS.calls (k : Nat) (A0 : Option Addr) (c0 : Nat) (l0 : List (S230)) (a1 : Int) (r : Int) (w : World) (hr0 : Kd.C k230 w A0 l0.length l0) (hc0 : l0.length ≤ c0) (h : laws_szReplyS.f k l0 a1 = some r) :
  Calls Try.prog 146 #[.slice A0 l0.length c0, .int .i64 a1] w fun e w' => e = .returned (.int .i64 r) ∧ Mem w [] w' [] := by
 have hu230 := Try.underlying230
 have HR0 := Aside0.mk hr0
 have HC0 := Aside0.mk hc0
 clear hr0 hc0
 have HM := Mem.nil w
 have H := h
 clear h
 unfold laws_szReplyS.f at H
 go_enter Try.func146, Try.ntmps146
 go_upto_if 11 with (fail)
 replace H := IT H; rcases H with ⟨c3, H⟩ | ⟨c3, H⟩
 ·have c3b0 := decide_eq_true c3
  clear c3
  first|rw [c3b0]|(simp only [i64_w, i32_w]; rw [c3b0])|skip
  obtain rfl := Option.some.inj H
  go_wp2
  go_ret
  exact ⟨ER, (MD HM).pick []⟩
 ·have c3b0 := decide_eq_false c3
  clear c3
  first|rw [c3b0]|(simp only [i64_w, i32_w]; rw [c3b0])|skip
  have H' := Aside0.mk H
  clear H
  go_wp2
  go_loopg [1, 5] k (fun kq v1 v5 w' => ∃ (x1_1 : Int) (x5_1 : Int), v1 = .int .i64 x1_1 ∧ v5 = .int .i64 x5_1 ∧ Aside0 (laws_szReplyS.l0 kq l0 x1_1 x5_1 = some r) ∧ Aside0 (kq ≤ k) ∧ Mem w [] w' [])
  case atStart => exact ⟨(wrap64 (a1 - (l0.length : Int))), (0), RS, RS, H', ⟨Nat.le_refl _⟩, (MD HM).pick []⟩
  case round =>
   clear H' HM
   obtain ⟨x1_1, x5_1, rfl, rfl, HA, HK1, HM⟩ := hrel
   cases gk with
   | zero => exact absurd HA.out (by simp [laws_szReplyS.l0])
   | succ k1 =>
    have H := HA.out
    clear HA
    simp only [laws_szReplyS.l0] at H
    go_upto_if 15 with (fail)
    replace H := IT H; rcases H with ⟨c4, H⟩ | ⟨c4, H⟩
    ·have c4b0 := decide_eq_true c4
     clear c4
     first|rw [c4b0]|(simp only [i64_w, i32_w]; rw [c4b0])|skip
     replace H := GD H; obtain ⟨c5, H⟩ := H
     have c5b0 := decide_eq_true c5
     clear c5
     replace H := BN H; obtain ⟨t1337, A6, H⟩ := H
     have p1336 : 0 ≤ (x5_1 : Int) := of_decide_eq_true AS
     have q1336 : (x5_1 : Int) < (l0.length : Int) := of_decide_eq_true AS
     obtain ⟨ad1336, e1336, hx1336_0, hx1336_1, hx1336_2⟩ := at_T230 (HM.came HR0.out) x5_1 p1336 q1336
     cases e1336
     replace p1336 := eq_true p1336
     replace q1336 := eq_true q1336
     go_upto_if 25 with (first | ((with_reducible refine gC 184 rfl ?_); refine pC (some 23) rfl #[.agg #[.bool ((rd_T230 l0 x5_1).f0), .string ((rd_T230 l0 x5_1).f1), .string ((rd_T230 l0 x5_1).f2)], .int .i64 x1_1] rfl Try.func184 (laws_szReply.calls ((rd_T230 l0 x5_1).f0) ((rd_T230 l0 x5_1).f1) ((rd_T230 l0 x5_1).f2) x1_1 t1337 _ A6.out) ?_; rintro e w7 ⟨rfl, hR⟩; refine ⟨_, rfl, ?_⟩; replace HM := HM.call hR; clear hR))
     replace H := IT H; rcases H with ⟨c8, H⟩ | ⟨c8, H⟩
     ·have c8b0 := decide_eq_true c8
      clear c8
      first|rw [c8b0]|(simp only [i64_w, i32_w]; rw [c8b0])|skip
      obtain rfl := Option.some.inj H
      go_wp2
      go_ret
      exact ⟨ER, (MD HM).pick []⟩
     ·have c8b0 := decide_eq_false c8
      clear c8
      first|rw [c8b0]|(simp only [i64_w, i32_w]; rw [c8b0])|skip
      have H' := Aside0.mk H
      clear H
      go_wp2
      go_roundg k1
      case measure => have := HK1.out; omega
      case rel => exact ⟨(t1337), (wrap64 (x5_1 + 1)), RS, RS, H', ⟨by have := HK1.out; omega⟩, (MD HM).pick []⟩
    ·have c4b0 := decide_eq_false c4
     clear c4
     first|rw [c4b0]|(simp only [i64_w, i32_w]; rw [c4b0])|skip
     obtain rfl := Option.some.inj H
     go_wp2
     go_ret
     exact ⟨ER, (MD HM).pick []⟩
def laws_szUser.f (k : Nat) (l0_0 : List (S228)) (a0_1 : Int) (a0_2 : Int) (a0_3 : Int) (l0_4 : List (S230)) (a1 : Int) : Option (Int) := (laws_szOpS.f k l0_0 a1).bind fun t1339 => (if t1339 < 0 then (some (-1)) else ((laws_szReplyS.f k l0_4 t1339).bind fun t1340 => (if t1340 < 0 then (some (-1)) else (some t1340))))
theorem laws_szUser.calls (k : Nat) (A0_0 : Option Addr) (c0_0 : Nat) (l0_0 : List (S228)) (a0_1 : Int) (a0_2 : Int) (a0_3 : Int) (A0_4 : Option Addr) (c0_4 : Nat) (l0_4 : List (S230)) (a1 : Int) (r : Int) (w : World) (hr0_0 : Kd.C k228 w A0_0 l0_0.length l0_0) (hc0_0 : l0_0.length ≤ c0_0) (hr0_4 : Kd.C k230 w A0_4 l0_4.length l0_4) (hc0_4 : l0_4.length ≤ c0_4) (h : laws_szUser.f k l0_0 a0_1 a0_2 a0_3 l0_4 a1 = some r) :
  Calls Try.prog 94 #[.agg #[.slice A0_0 l0_0.length c0_0, .int .i64 a0_1, .int .i64 a0_2, .int .i64 a0_3, .slice A0_4 l0_4.length c0_4], .int .i64 a1] w fun e w' => e = .returned (.int .i64 r) ∧ Mem w [] w' [] := by
 have hu155 := Try.underlying155
 have HR0_0 := Aside0.mk hr0_0
 have HC0_0 := Aside0.mk hc0_0
 clear hr0_0 hc0_0
 have HR0_4 := Aside0.mk hr0_4
 have HC0_4 := Aside0.mk hc0_4
 clear hr0_4 hc0_4
 have HM := Mem.nil w
 have H := h
 clear h
 unfold laws_szUser.f at H
 go_enter Try.func94, Try.ntmps94
 replace H := BN H; obtain ⟨t1339, A5, H⟩ := H
 go_upto_if 10 with (first | ((with_reducible refine gN 2 rfl ?_); refine pB 2 155 [.slice A0_0 l0_0.length c0_0, .int .i64 a0_1, .int .i64 a0_2, .int .i64 a0_3, .slice A0_4 l0_4.length c0_4] HM rfl ?_; clear HM; intro gb1338 w3 HM; obtain ⟨_,_,_,_,_,_,_,_,_,_⟩ := bk5 (HM.bx 0 rfl)) | ((with_reducible refine gC 145 rfl ?_); refine pC (some 8) rfl #[.slice A0_0 l0_0.length c0_0, .int .i64 a1] rfl Try.func145 (laws_szOpS.calls k _ _ l0_0 a1 t1339 _ (HM.came HR0_0.out) HC0_0.out A5.out) ?_; rintro e w6 ⟨rfl, hR⟩; refine ⟨_, rfl, ?_⟩; replace HM := HM.call hR; clear hR))
 replace HM := nzM HM
 replace H := IT H; rcases H with ⟨c7, H⟩ | ⟨c7, H⟩
 ·have c7b0 := decide_eq_true c7
  clear c7
  first|rw [c7b0]|(simp only [i64_w, i32_w]; rw [c7b0])|skip
  obtain rfl := Option.some.inj H
  go_wp2
  go_ret
  exact ⟨ER, (MD HM).pick []⟩
 ·have c7b0 := decide_eq_false c7
  clear c7
  first|rw [c7b0]|(simp only [i64_w, i32_w]; rw [c7b0])|skip
  replace H := BN H; obtain ⟨t1340, A9, H⟩ := H
  obtain ⟨_,_,_,_,_,_,_,_,_,_⟩ := bk5 (HM.bx 0 rfl)
  go_upto_if 16 with (first | ((with_reducible refine gC 146 rfl ?_); refine pC (some 14) rfl #[.slice A0_4 l0_4.length c0_4, .int .i64 t1339] rfl Try.func146 (laws_szReplyS.calls k _ _ l0_4 t1339 t1340 _ (HM.came HR0_4.out) HC0_4.out A9.out) ?_; rintro e w10 ⟨rfl, hR⟩; refine ⟨_, rfl, ?_⟩; replace HM := HM.call hR; clear hR))
  replace H := IT H; rcases H with ⟨c11, H⟩ | ⟨c11, H⟩
  ·have c11b0 := decide_eq_true c11
   clear c11
   first|rw [c11b0]|(simp only [i64_w, i32_w]; rw [c11b0])|skip
   obtain rfl := Option.some.inj H
   go_wp2
   go_ret
   exact ⟨ER, (MD HM).pick []⟩
  ·have c11b0 := decide_eq_false c11
   clear c11
   first|rw [c11b0]|(simp only [i64_w, i32_w]; rw [c11b0])|skip
   obtain rfl := Option.some.inj H
   go_wp2
   go_ret
   exact ⟨ER, (MD HM).pick []⟩
def laws_szUserS.l0 : Nat → List (S155) → Int → Int → Option (Int)
 | 0, _, _, _ => none
 | k + 1, x0, x1, x5 => if x5 < (x0.length : Int) then (if 0 ≤ x5 then ((laws_szUser.f k ((rd_T155 x0 x5).f0) ((rd_T155 x0 x5).f1) ((rd_T155 x0 x5).f2) ((rd_T155 x0 x5).f3) ((rd_T155 x0 x5).f4) x1).bind fun t1342 => (if t1342 < 0 then (some (-1)) else (laws_szUserS.l0 k x0 t1342 (wrap64 (x5 + 1))))) else (none)) else (some x1)
def laws_szUserS.f (k : Nat) (l0 : List (S155)) (a1 : Int) : Option (Int) := if (wrap64 (a1 - (l0.length : Int))) < 0 then (some (-1)) else (laws_szUserS.l0 k l0 (wrap64 (a1 - (l0.length : Int))) 0)
theorem laws_szUserS.calls (k : Nat) (A0 : Option Addr) (c0 : Nat) (l0 : List (S155)) (a1 : Int) (r : Int) (w : World) (hr0 : Kd.C k155 w A0 l0.length l0) (hc0 : l0.length ≤ c0) (h : laws_szUserS.f k l0 a1 = some r) :
  Calls Try.prog 42 #[.slice A0 l0.length c0, .int .i64 a1] w fun e w' => e = .returned (.int .i64 r) ∧ Mem w [] w' [] := by
 have hu155 := Try.underlying155
 have HR0 := Aside0.mk hr0
 have HC0 := Aside0.mk hc0
 clear hr0 hc0
 have HM := Mem.nil w
 have H := h
 clear h
 unfold laws_szUserS.f at H
 go_enter Try.func42, Try.ntmps42
 go_upto_if 11 with (fail)
 replace H := IT H; rcases H with ⟨c3, H⟩ | ⟨c3, H⟩
 ·have c3b0 := decide_eq_true c3
  clear c3
  first|rw [c3b0]|(simp only [i64_w, i32_w]; rw [c3b0])|skip
  obtain rfl := Option.some.inj H
  go_wp2
  go_ret
  exact ⟨ER, (MD HM).pick []⟩
 ·have c3b0 := decide_eq_false c3
  clear c3
  first|rw [c3b0]|(simp only [i64_w, i32_w]; rw [c3b0])|skip
  have H' := Aside0.mk H
  clear H
  go_wp2
  go_loopg [1, 5] k (fun kq v1 v5 w' => ∃ (x1_1 : Int) (x5_1 : Int), v1 = .int .i64 x1_1 ∧ v5 = .int .i64 x5_1 ∧ Aside0 (laws_szUserS.l0 kq l0 x1_1 x5_1 = some r) ∧ Aside0 (kq ≤ k) ∧ Mem w [] w' [])
  case atStart => exact ⟨(wrap64 (a1 - (l0.length : Int))), (0), RS, RS, H', ⟨Nat.le_refl _⟩, (MD HM).pick []⟩
  case round =>
   clear H' HM
   obtain ⟨x1_1, x5_1, rfl, rfl, HA, HK1, HM⟩ := hrel
   cases gk with
   | zero => exact absurd HA.out (by simp [laws_szUserS.l0])
   | succ k1 =>
    have H := HA.out
    clear HA
    simp only [laws_szUserS.l0] at H
    go_upto_if 15 with (fail)
    replace H := IT H; rcases H with ⟨c4, H⟩ | ⟨c4, H⟩
    ·have c4b0 := decide_eq_true c4
     clear c4
     first|rw [c4b0]|(simp only [i64_w, i32_w]; rw [c4b0])|skip
     replace H := GD H; obtain ⟨c5, H⟩ := H
     have c5b0 := decide_eq_true c5
     clear c5
     replace H := BN H; obtain ⟨t1342, A6, H⟩ := H
     have p1341 : 0 ≤ (x5_1 : Int) := of_decide_eq_true AS
     have q1341 : (x5_1 : Int) < (l0.length : Int) := of_decide_eq_true AS
     obtain ⟨ad1341, A1341_0, c1341_0, A1341_4, c1341_4, e1341, hw1341_0, hw1341_1, hw1341_2, hw1341_3, hw1341_4, l1341_0, g1341_0, l1341_4, g1341_4⟩ := at_T155 HR0.out x5_1 p1341 q1341
     cases e1341
     have hx1341_0 := HM.cell hw1341_0
     have hx1341_1 := HM.cell hw1341_1
     have hx1341_2 := HM.cell hw1341_2
     have hx1341_3 := HM.cell hw1341_3
     have hx1341_4 := HM.cell hw1341_4
     replace p1341 := eq_true p1341
     replace q1341 := eq_true q1341
     go_upto_if 25 with (first | ((with_reducible refine gC 94 rfl ?_); refine pC (some 23) rfl #[.agg #[.slice A1341_0 ((rd_T155 l0 x5_1).f0).length c1341_0, .int .i64 ((rd_T155 l0 x5_1).f1), .int .i64 ((rd_T155 l0 x5_1).f2), .int .i64 ((rd_T155 l0 x5_1).f3), .slice A1341_4 ((rd_T155 l0 x5_1).f4).length c1341_4], .int .i64 x1_1] rfl Try.func94 (laws_szUser.calls k1 _ _ ((rd_T155 l0 x5_1).f0) ((rd_T155 l0 x5_1).f1) ((rd_T155 l0 x5_1).f2) ((rd_T155 l0 x5_1).f3) _ _ ((rd_T155 l0 x5_1).f4) x1_1 t1342 _ (HM.came g1341_0) l1341_0 (HM.came g1341_4) l1341_4 A6.out) ?_; rintro e w7 ⟨rfl, hR⟩; refine ⟨_, rfl, ?_⟩; replace HM := HM.call hR; clear hR))
     replace H := IT H; rcases H with ⟨c8, H⟩ | ⟨c8, H⟩
     ·have c8b0 := decide_eq_true c8
      clear c8
      first|rw [c8b0]|(simp only [i64_w, i32_w]; rw [c8b0])|skip
      obtain rfl := Option.some.inj H
      go_wp2
      go_ret
      exact ⟨ER, (MD HM).pick []⟩
     ·have c8b0 := decide_eq_false c8
      clear c8
      first|rw [c8b0]|(simp only [i64_w, i32_w]; rw [c8b0])|skip
      have H' := Aside0.mk H
      clear H
      go_wp2
      go_roundg k1
      case measure => have := HK1.out; omega
      case rel => exact ⟨(t1342), (wrap64 (x5_1 + 1)), RS, RS, H', ⟨by have := HK1.out; omega⟩, (MD HM).pick []⟩
    ·have c4b0 := decide_eq_false c4
     clear c4
     first|rw [c4b0]|(simp only [i64_w, i32_w]; rw [c4b0])|skip
     obtain rfl := Option.some.inj H
     go_wp2
     go_ret
     exact ⟨ER, (MD HM).pick []⟩
def laws_szItem.f (a0_0 : ByteArray) (a0_1 : ByteArray) (a0_2 : Int) (a1 : Int) : Option (Int) := if (wrap64 (a1 - (a0_0.size : Int))) < 0 then (some (-1)) else (if (wrap64 ((wrap64 (a1 - (a0_0.size : Int))) - (a0_1.size : Int))) < 0 then (some (-1)) else (some (wrap64 ((wrap64 (a1 - (a0_0.size : Int))) - (a0_1.size : Int)))))
theorem laws_szItem.calls (a0_0 : ByteArray) (a0_1 : ByteArray) (a0_2 : Int) (a1 : Int) (r : Int) (w : World)  (h : laws_szItem.f a0_0 a0_1 a0_2 a1 = some r) :
  Calls Try.prog 176 #[.agg #[.string a0_0, .string a0_1, .int .i64 a0_2], .int .i64 a1] w fun e w' => e = .returned (.int .i64 r) ∧ Mem w [] w' [] := by
 have hu220 := Try.underlying220
 have HM := Mem.nil w
 have H := h
 clear h
 unfold laws_szItem.f at H
 go_enter Try.func176, Try.ntmps176
 go_upto_if 11 with (first | ((with_reducible refine gN 2 rfl ?_); refine pB 2 220 [.string a0_0, .string a0_1, .int .i64 a0_2] HM rfl ?_; clear HM; intro gb1343 w3 HM; obtain ⟨_,_,_,_,_,_⟩ := bk3 (HM.bx 0 rfl)))
 replace H := IT H; rcases H with ⟨c5, H⟩ | ⟨c5, H⟩
 ·have c5b0 := decide_eq_true c5
  clear c5
  first|rw [c5b0]|(simp only [i64_w, i32_w]; rw [c5b0])|skip
  obtain rfl := Option.some.inj H
  go_wp2
  go_ret
  exact ⟨ER, (MD HM).pick []⟩
 ·have c5b0 := decide_eq_false c5
  clear c5
  first|rw [c5b0]|(simp only [i64_w, i32_w]; rw [c5b0])|skip
  go_upto_if 18 with (fail)
  replace H := IT H; rcases H with ⟨c6, H⟩ | ⟨c6, H⟩
  ·have c6b0 := decide_eq_true c6
   clear c6
   first|rw [c6b0]|(simp only [i64_w, i32_w]; rw [c6b0])|skip
   obtain rfl := Option.some.inj H
   go_wp2
   go_ret
   exact ⟨ER, (MD HM).pick []⟩
  ·have c6b0 := decide_eq_false c6
   clear c6
   first|rw [c6b0]|(simp only [i64_w, i32_w]; rw [c6b0])|skip
   obtain rfl := Option.some.inj H
   go_wp2
   go_ret
   exact ⟨ER, (MD HM).pick []⟩
def laws_szItemS.l0 : Nat → List (S220) → Int → Int → Option (Int)
 | 0, _, _, _ => none
 | k + 1, x0, x1, x5 => if x5 < (x0.length : Int) then (if 0 ≤ x5 then ((laws_szItem.f ((rd_T220 x0 x5).f0) ((rd_T220 x0 x5).f1) ((rd_T220 x0 x5).f2) x1).bind fun t1345 => (if t1345 < 0 then (some (-1)) else (laws_szItemS.l0 k x0 t1345 (wrap64 (x5 + 1))))) else (none)) else (some x1)
def laws_szItemS.f (k : Nat) (l0 : List (S220)) (a1 : Int) : Option (Int) := if (wrap64 (a1 - (l0.length : Int))) < 0 then (some (-1)) else (laws_szItemS.l0 k l0 (wrap64 (a1 - (l0.length : Int))) 0)
theorem laws_szItemS.calls (k : Nat) (A0 : Option Addr) (c0 : Nat) (l0 : List (S220)) (a1 : Int) (r : Int) (w : World) (hr0 : Kd.C k220 w A0 l0.length l0) (hc0 : l0.length ≤ c0) (h : laws_szItemS.f k l0 a1 = some r) :
  Calls Try.prog 130 #[.slice A0 l0.length c0, .int .i64 a1] w fun e w' => e = .returned (.int .i64 r) ∧ Mem w [] w' [] := by
 have hu220 := Try.underlying220
 have HR0 := Aside0.mk hr0
 have HC0 := Aside0.mk hc0
 clear hr0 hc0
 have HM := Mem.nil w
 have H := h
 clear h
 unfold laws_szItemS.f at H
 go_enter Try.func130, Try.ntmps130
 go_upto_if 11 with (fail)
 replace H := IT H; rcases H with ⟨c3, H⟩ | ⟨c3, H⟩
 ·have c3b0 := decide_eq_true c3
  clear c3
  first|rw [c3b0]|(simp only [i64_w, i32_w]; rw [c3b0])|skip
  obtain rfl := Option.some.inj H
  go_wp2
  go_ret
  exact ⟨ER, (MD HM).pick []⟩
 ·have c3b0 := decide_eq_false c3
  clear c3
  first|rw [c3b0]|(simp only [i64_w, i32_w]; rw [c3b0])|skip
  have H' := Aside0.mk H
  clear H
  go_wp2
  go_loopg [1, 5] k (fun kq v1 v5 w' => ∃ (x1_1 : Int) (x5_1 : Int), v1 = .int .i64 x1_1 ∧ v5 = .int .i64 x5_1 ∧ Aside0 (laws_szItemS.l0 kq l0 x1_1 x5_1 = some r) ∧ Aside0 (kq ≤ k) ∧ Mem w [] w' [])
  case atStart => exact ⟨(wrap64 (a1 - (l0.length : Int))), (0), RS, RS, H', ⟨Nat.le_refl _⟩, (MD HM).pick []⟩
  case round =>
   clear H' HM
   obtain ⟨x1_1, x5_1, rfl, rfl, HA, HK1, HM⟩ := hrel
   cases gk with
   | zero => exact absurd HA.out (by simp [laws_szItemS.l0])
   | succ k1 =>
    have H := HA.out
    clear HA
    simp only [laws_szItemS.l0] at H
    go_upto_if 15 with (fail)
    replace H := IT H; rcases H with ⟨c4, H⟩ | ⟨c4, H⟩
    ·have c4b0 := decide_eq_true c4
     clear c4
     first|rw [c4b0]|(simp only [i64_w, i32_w]; rw [c4b0])|skip
     replace H := GD H; obtain ⟨c5, H⟩ := H
     have c5b0 := decide_eq_true c5
     clear c5
     replace H := BN H; obtain ⟨t1345, A6, H⟩ := H
     have p1344 : 0 ≤ (x5_1 : Int) := of_decide_eq_true AS
     have q1344 : (x5_1 : Int) < (l0.length : Int) := of_decide_eq_true AS
     obtain ⟨ad1344, e1344, hx1344_0, hx1344_1, hx1344_2⟩ := at_T220 (HM.came HR0.out) x5_1 p1344 q1344
     cases e1344
     replace p1344 := eq_true p1344
     replace q1344 := eq_true q1344
     go_upto_if 25 with (first | ((with_reducible refine gC 176 rfl ?_); refine pC (some 23) rfl #[.agg #[.string ((rd_T220 l0 x5_1).f0), .string ((rd_T220 l0 x5_1).f1), .int .i64 ((rd_T220 l0 x5_1).f2)], .int .i64 x1_1] rfl Try.func176 (laws_szItem.calls ((rd_T220 l0 x5_1).f0) ((rd_T220 l0 x5_1).f1) ((rd_T220 l0 x5_1).f2) x1_1 t1345 _ A6.out) ?_; rintro e w7 ⟨rfl, hR⟩; refine ⟨_, rfl, ?_⟩; replace HM := HM.call hR; clear hR))
     replace H := IT H; rcases H with ⟨c8, H⟩ | ⟨c8, H⟩
     ·have c8b0 := decide_eq_true c8
      clear c8
      first|rw [c8b0]|(simp only [i64_w, i32_w]; rw [c8b0])|skip
      obtain rfl := Option.some.inj H
      go_wp2
      go_ret
      exact ⟨ER, (MD HM).pick []⟩
     ·have c8b0 := decide_eq_false c8
      clear c8
      first|rw [c8b0]|(simp only [i64_w, i32_w]; rw [c8b0])|skip
      have H' := Aside0.mk H
      clear H
      go_wp2
      go_roundg k1
      case measure => have := HK1.out; omega
      case rel => exact ⟨(t1345), (wrap64 (x5_1 + 1)), RS, RS, H', ⟨by have := HK1.out; omega⟩, (MD HM).pick []⟩
    ·have c4b0 := decide_eq_false c4
     clear c4
     first|rw [c4b0]|(simp only [i64_w, i32_w]; rw [c4b0])|skip
     obtain rfl := Option.some.inj H
     go_wp2
     go_ret
     exact ⟨ER, (MD HM).pick []⟩
end Go.Proofs.Ythnedklbobbkcaa.G

namespace Go.Proofs.Ythnedklbobbkcaa.G
open Go.RowKit Go.Proofs.YthnedklbobbkcaaW.PrintWords Go.Proofs.YthnedklbobbkcaaW.PrintLast Go.Proofs.YthnedklbobbkcaaW.PrintMore Go.Proofs.Ythnedklbobbkcaa.Sh
attribute [local go_sem] max2_int min2_int max_two min_two max_three min_three max_four min_four
set_option linter.unusedVariables false
set_option linter.unusedSimpArgs false
def laws_szIntS.f (l0 : List Int) (a1 : Int) : Option (Int) := if (wrap64 (a1 - (l0.length : Int))) < 0 then (some (-1)) else (some (wrap64 (a1 - (l0.length : Int))))
theorem laws_szIntS.calls (A0 : Option Addr) (c0 : Nat) (l0 : List Int) (a1 : Int) (r : Int) (w : World) (hr0 : Kd.C (Kd.int .i64) w A0 l0.length l0) (hc0 : l0.length ≤ c0) (h : laws_szIntS.f l0 a1 = some r) :
  Calls Try.prog 131 #[.slice A0 l0.length c0, .int .i64 a1] w fun e w' => e = .returned (.int .i64 r) ∧ Drawn0 w w' := by
 have HR0 := Aside0.mk hr0
 have HC0 := Aside0.mk hc0
 clear hr0 hc0
 have H : (if (wrap64 (a1 - (l0.length : Int))) < 0 then (some (-1)) else (some (wrap64 (a1 - (l0.length : Int))))) = some r := h
 clear h
 by_cases c3 : (wrap64 (a1 - (l0.length : Int))) < 0
 ·rw [if_pos c3] at H
  have c3b0 : decide ((wrap64 (a1 - (l0.length : Int))) < 0) = true := decide_eq_true c3
  clear c3
  obtain rfl := Option.some.inj H
  go_enter Try.func131, Try.ntmps131
  go_wp2
  go_ret
  exact ⟨by first | rfl | (simp; done) | (simp [*]; done), DR⟩
 ·rw [if_neg c3] at H
  have c3b0 : decide ((wrap64 (a1 - (l0.length : Int))) < 0) = false := decide_eq_false c3
  clear c3
  obtain rfl := Option.some.inj H
  go_enter Try.func131, Try.ntmps131
  go_wp2
  go_ret
  exact ⟨by first | rfl | (simp; done) | (simp [*]; done), DR⟩
end Go.Proofs.Ythnedklbobbkcaa.G

namespace Go.Proofs.Ythnedklbobbkcaa.G
open Go.RowKit Go.Proofs.YthnedklbobbkcaaW.PrintWords Go.Proofs.YthnedklbobbkcaaW.PrintLast Go.Proofs.YthnedklbobbkcaaW.PrintMore Go.Proofs.Ythnedklbobbkcaa.Sh
attribute [local go_sem] max2_int min2_int max_two min_two max_three min_three max_four min_four
set_option linter.unusedVariables false
set_option linter.unusedSimpArgs false
open Go.Proofs.Ythnedklbobbkcaa.Mm
def laws_szThree.f (k : Nat) (a0_0 : Int) (a0_1 : Int) (l0_2 : List (S220)) (l0_3 : List (S220)) (l0_4 : List Int) (a1 : Int) : Option (Int) := (laws_szItemS.f k l0_2 a1).bind fun t1347 => (if t1347 < 0 then (some (-1)) else ((laws_szItemS.f k l0_3 t1347).bind fun t1348 => (if t1348 < 0 then (some (-1)) else ((laws_szIntS.f l0_4 t1348).bind fun t1349 => (if t1349 < 0 then (some (-1)) else (some t1349))))))
theorem laws_szThree.calls (k : Nat) (a0_0 : Int) (a0_1 : Int) (A0_2 : Option Addr) (c0_2 : Nat) (l0_2 : List (S220)) (A0_3 : Option Addr) (c0_3 : Nat) (l0_3 : List (S220)) (A0_4 : Option Addr) (c0_4 : Nat) (l0_4 : List Int) (a1 : Int) (r : Int) (w : World) (hr0_2 : Kd.C k220 w A0_2 l0_2.length l0_2) (hc0_2 : l0_2.length ≤ c0_2) (hr0_3 : Kd.C k220 w A0_3 l0_3.length l0_3) (hc0_3 : l0_3.length ≤ c0_3) (hr0_4 : Kd.C (Kd.int .i64) w A0_4 l0_4.length l0_4) (hc0_4 : l0_4.length ≤ c0_4) (h : laws_szThree.f k a0_0 a0_1 l0_2 l0_3 l0_4 a1 = some r) :
  Calls Try.prog 76 #[.agg #[.int .i64 a0_0, .int .i64 a0_1, .slice A0_2 l0_2.length c0_2, .slice A0_3 l0_3.length c0_3, .slice A0_4 l0_4.length c0_4], .int .i64 a1] w fun e w' => e = .returned (.int .i64 r) ∧ Mem w [] w' [] := by
 have hu60 := Try.underlying60
 have HR0_2 := Aside0.mk hr0_2
 have HC0_2 := Aside0.mk hc0_2
 clear hr0_2 hc0_2
 have HR0_3 := Aside0.mk hr0_3
 have HC0_3 := Aside0.mk hc0_3
 clear hr0_3 hc0_3
 have HR0_4 := Aside0.mk hr0_4
 have HC0_4 := Aside0.mk hc0_4
 clear hr0_4 hc0_4
 have HM := Mem.nil w
 have H := h
 clear h
 unfold laws_szThree.f at H
 go_enter Try.func76, Try.ntmps76
 replace H := BN H; obtain ⟨t1347, A5, H⟩ := H
 go_upto_if 10 with (first | ((with_reducible refine gN 2 rfl ?_); refine pB 2 60 [.int .i64 a0_0, .int .i64 a0_1, .slice A0_2 l0_2.length c0_2, .slice A0_3 l0_3.length c0_3, .slice A0_4 l0_4.length c0_4] HM rfl ?_; clear HM; intro gb1346 w3 HM; obtain ⟨_,_,_,_,_,_,_,_,_,_⟩ := bk5 (HM.bx 0 rfl)) | ((with_reducible refine gC 130 rfl ?_); refine pC (some 8) rfl #[.slice A0_2 l0_2.length c0_2, .int .i64 a1] rfl Try.func130 (laws_szItemS.calls k _ _ l0_2 a1 t1347 _ (HM.came HR0_2.out) HC0_2.out A5.out) ?_; rintro e w6 ⟨rfl, hR⟩; refine ⟨_, rfl, ?_⟩; replace HM := HM.call hR; clear hR))
 replace HM := nzM HM
 replace H := IT H; rcases H with ⟨c7, H⟩ | ⟨c7, H⟩
 ·have c7b0 := decide_eq_true c7
  clear c7
  first|rw [c7b0]|(simp only [i64_w, i32_w]; rw [c7b0])|skip
  obtain rfl := Option.some.inj H
  go_wp2
  go_ret
  exact ⟨ER, (MD HM).pick []⟩
 ·have c7b0 := decide_eq_false c7
  clear c7
  first|rw [c7b0]|(simp only [i64_w, i32_w]; rw [c7b0])|skip
  replace H := BN H; obtain ⟨t1348, A9, H⟩ := H
  obtain ⟨_,_,_,_,_,_,_,_,_,_⟩ := bk5 (HM.bx 0 rfl)
  go_upto_if 16 with (first | ((with_reducible refine gC 130 rfl ?_); refine pC (some 14) rfl #[.slice A0_3 l0_3.length c0_3, .int .i64 t1347] rfl Try.func130 (laws_szItemS.calls k _ _ l0_3 t1347 t1348 _ (HM.came HR0_3.out) HC0_3.out A9.out) ?_; rintro e w10 ⟨rfl, hR⟩; refine ⟨_, rfl, ?_⟩; replace HM := HM.call hR; clear hR))
  replace H := IT H; rcases H with ⟨c11, H⟩ | ⟨c11, H⟩
  ·have c11b0 := decide_eq_true c11
   clear c11
   first|rw [c11b0]|(simp only [i64_w, i32_w]; rw [c11b0])|skip
   obtain rfl := Option.some.inj H
   go_wp2
   go_ret
   exact ⟨ER, (MD HM).pick []⟩
  ·have c11b0 := decide_eq_false c11
   clear c11
   first|rw [c11b0]|(simp only [i64_w, i32_w]; rw [c11b0])|skip
   replace H := BN H; obtain ⟨t1349, A13, H⟩ := H
   obtain ⟨_,_,_,_,_,_,_,_,_,_⟩ := bk5 (HM.bx 0 rfl)
   go_upto_if 22 with (first | ((with_reducible refine gC 131 rfl ?_); refine pC (some 20) rfl #[.slice A0_4 l0_4.length c0_4, .int .i64 t1348] rfl Try.func131 (laws_szIntS.calls _ _ l0_4 t1348 t1349 _ (HM.came HR0_4.out) HC0_4.out A13.out) ?_; rintro e w14 ⟨rfl, hd⟩; refine ⟨_, rfl, ?_⟩; replace HM := HM.drawn hd; clear hd))
   replace H := IT H; rcases H with ⟨c15, H⟩ | ⟨c15, H⟩
   ·have c15b0 := decide_eq_true c15
    clear c15
    first|rw [c15b0]|(simp only [i64_w, i32_w]; rw [c15b0])|skip
    obtain rfl := Option.some.inj H
    go_wp2
    go_ret
    exact ⟨ER, (MD HM).pick []⟩
   ·have c15b0 := decide_eq_false c15
    clear c15
    first|rw [c15b0]|(simp only [i64_w, i32_w]; rw [c15b0])|skip
    obtain rfl := Option.some.inj H
    go_wp2
    go_ret
    exact ⟨ER, (MD HM).pick []⟩
end Go.Proofs.Ythnedklbobbkcaa.G

namespace Go.Proofs.Ythnedklbobbkcaa.G
open Go.RowKit Go.Proofs.YthnedklbobbkcaaW.PrintWords Go.Proofs.YthnedklbobbkcaaW.PrintLast Go.Proofs.YthnedklbobbkcaaW.PrintMore Go.Proofs.Ythnedklbobbkcaa.Sh
attribute [local go_sem] max2_int min2_int max_two min_two max_three min_three max_four min_four
set_option linter.unusedVariables false
set_option linter.unusedSimpArgs false
def laws_szGoneS.f (l0 : List (S244)) (a1 : Int) : Option (Int) := if (wrap64 (a1 - (l0.length : Int))) < 0 then (some (-1)) else (some (wrap64 (a1 - (l0.length : Int))))
theorem laws_szGoneS.calls (A0 : Option Addr) (c0 : Nat) (l0 : List (S244)) (a1 : Int) (r : Int) (w : World) (hr0 : Kd.C k244 w A0 l0.length l0) (hc0 : l0.length ≤ c0) (h : laws_szGoneS.f l0 a1 = some r) :
  Calls Try.prog 177 #[.slice A0 l0.length c0, .int .i64 a1] w fun e w' => e = .returned (.int .i64 r) ∧ Drawn0 w w' := by
 have HR0 := Aside0.mk hr0
 have HC0 := Aside0.mk hc0
 clear hr0 hc0
 have H : (if (wrap64 (a1 - (l0.length : Int))) < 0 then (some (-1)) else (some (wrap64 (a1 - (l0.length : Int))))) = some r := h
 clear h
 by_cases c3 : (wrap64 (a1 - (l0.length : Int))) < 0
 ·rw [if_pos c3] at H
  have c3b0 : decide ((wrap64 (a1 - (l0.length : Int))) < 0) = true := decide_eq_true c3
  clear c3
  obtain rfl := Option.some.inj H
  go_enter Try.func177, Try.ntmps177
  go_wp2
  go_ret
  exact ⟨by first | rfl | (simp; done) | (simp [*]; done), DR⟩
 ·rw [if_neg c3] at H
  have c3b0 : decide ((wrap64 (a1 - (l0.length : Int))) < 0) = false := decide_eq_false c3
  clear c3
  obtain rfl := Option.some.inj H
  go_enter Try.func177, Try.ntmps177
  go_wp2
  go_ret
  exact ⟨by first | rfl | (simp; done) | (simp [*]; done), DR⟩
end Go.Proofs.Ythnedklbobbkcaa.G

namespace Go.Proofs.Ythnedklbobbkcaa.G
open Go.RowKit Go.Proofs.YthnedklbobbkcaaW.PrintWords Go.Proofs.YthnedklbobbkcaaW.PrintLast Go.Proofs.YthnedklbobbkcaaW.PrintMore Go.Proofs.Ythnedklbobbkcaa.Sh
attribute [local go_sem] max2_int min2_int max_two min_two max_three min_three max_four min_four
set_option linter.unusedVariables false
set_option linter.unusedSimpArgs false
open Go.Proofs.Ythnedklbobbkcaa.Mm
def laws_szAges.f (a0_0 : Int) (l0_1 : List Int) (l0_2 : List (S244)) (a1 : Int) : Option (Int) := (laws_szIntS.f l0_1 a1).bind fun t1351 => (if t1351 < 0 then (some (-1)) else ((laws_szGoneS.f l0_2 t1351).bind fun t1352 => (if t1352 < 0 then (some (-1)) else (some t1352))))
theorem laws_szAges.calls (a0_0 : Int) (A0_1 : Option Addr) (c0_1 : Nat) (l0_1 : List Int) (A0_2 : Option Addr) (c0_2 : Nat) (l0_2 : List (S244)) (a1 : Int) (r : Int) (w : World) (hr0_1 : Kd.C (Kd.int .i64) w A0_1 l0_1.length l0_1) (hc0_1 : l0_1.length ≤ c0_1) (hr0_2 : Kd.C k244 w A0_2 l0_2.length l0_2) (hc0_2 : l0_2.length ≤ c0_2) (h : laws_szAges.f a0_0 l0_1 l0_2 a1 = some r) :
  Calls Try.prog 132 #[.agg #[.int .i64 a0_0, .slice A0_1 l0_1.length c0_1, .slice A0_2 l0_2.length c0_2], .int .i64 a1] w fun e w' => e = .returned (.int .i64 r) ∧ Mem w [] w' [] := by
 have hu63 := Try.underlying63
 have HR0_1 := Aside0.mk hr0_1
 have HC0_1 := Aside0.mk hc0_1
 clear hr0_1 hc0_1
 have HR0_2 := Aside0.mk hr0_2
 have HC0_2 := Aside0.mk hc0_2
 clear hr0_2 hc0_2
 have HM := Mem.nil w
 have H := h
 clear h
 unfold laws_szAges.f at H
 go_enter Try.func132, Try.ntmps132
 replace H := BN H; obtain ⟨t1351, A5, H⟩ := H
 go_upto_if 10 with (first | ((with_reducible refine gN 2 rfl ?_); refine pB 2 63 [.int .i64 a0_0, .slice A0_1 l0_1.length c0_1, .slice A0_2 l0_2.length c0_2] HM rfl ?_; clear HM; intro gb1350 w3 HM; obtain ⟨_,_,_,_,_,_⟩ := bk3 (HM.bx 0 rfl)) | ((with_reducible refine gC 131 rfl ?_); refine pC (some 8) rfl #[.slice A0_1 l0_1.length c0_1, .int .i64 a1] rfl Try.func131 (laws_szIntS.calls _ _ l0_1 a1 t1351 _ (HM.came HR0_1.out) HC0_1.out A5.out) ?_; rintro e w6 ⟨rfl, hd⟩; refine ⟨_, rfl, ?_⟩; replace HM := HM.drawn hd; clear hd))
 replace H := IT H; rcases H with ⟨c7, H⟩ | ⟨c7, H⟩
 ·have c7b0 := decide_eq_true c7
  clear c7
  first|rw [c7b0]|(simp only [i64_w, i32_w]; rw [c7b0])|skip
  obtain rfl := Option.some.inj H
  go_wp2
  go_ret
  exact ⟨ER, (MD HM).pick []⟩
 ·have c7b0 := decide_eq_false c7
  clear c7
  first|rw [c7b0]|(simp only [i64_w, i32_w]; rw [c7b0])|skip
  replace H := BN H; obtain ⟨t1352, A9, H⟩ := H
  obtain ⟨_,_,_,_,_,_⟩ := bk3 (HM.bx 0 rfl)
  go_upto_if 16 with (first | ((with_reducible refine gC 177 rfl ?_); refine pC (some 14) rfl #[.slice A0_2 l0_2.length c0_2, .int .i64 t1351] rfl Try.func177 (laws_szGoneS.calls _ _ l0_2 t1351 t1352 _ (HM.came HR0_2.out) HC0_2.out A9.out) ?_; rintro e w10 ⟨rfl, hd⟩; refine ⟨_, rfl, ?_⟩; replace HM := HM.drawn hd; clear hd))
  replace H := IT H; rcases H with ⟨c11, H⟩ | ⟨c11, H⟩
  ·have c11b0 := decide_eq_true c11
   clear c11
   first|rw [c11b0]|(simp only [i64_w, i32_w]; rw [c11b0])|skip
   obtain rfl := Option.some.inj H
   go_wp2
   go_ret
   exact ⟨ER, (MD HM).pick []⟩
  ·have c11b0 := decide_eq_false c11
   clear c11
   first|rw [c11b0]|(simp only [i64_w, i32_w]; rw [c11b0])|skip
   obtain rfl := Option.some.inj H
   go_wp2
   go_ret
   exact ⟨ER, (MD HM).pick []⟩
def laws_szPool.f (l0_0 : List Int) (a0_1 : Int) (l0_2 : List Int) (l0_3 : List (S244)) (l0_4 : List Int) (a1 : Int) : Option (Int) := (laws_szIntS.f l0_0 a1).bind fun t1354 => (if t1354 < 0 then (some (-1)) else ((laws_szAges.f a0_1 l0_2 l0_3 t1354).bind fun t1355 => (if t1355 < 0 then (some (-1)) else ((laws_szIntS.f l0_4 t1355).bind fun t1356 => (if t1356 < 0 then (some (-1)) else (some t1356))))))
theorem laws_szPool.calls (A0_0 : Option Addr) (c0_0 : Nat) (l0_0 : List Int) (a0_1 : Int) (A0_2 : Option Addr) (c0_2 : Nat) (l0_2 : List Int) (A0_3 : Option Addr) (c0_3 : Nat) (l0_3 : List (S244)) (A0_4 : Option Addr) (c0_4 : Nat) (l0_4 : List Int) (a1 : Int) (r : Int) (w : World) (hr0_0 : Kd.C (Kd.int .i64) w A0_0 l0_0.length l0_0) (hc0_0 : l0_0.length ≤ c0_0) (hr0_2 : Kd.C (Kd.int .i64) w A0_2 l0_2.length l0_2) (hc0_2 : l0_2.length ≤ c0_2) (hr0_3 : Kd.C k244 w A0_3 l0_3.length l0_3) (hc0_3 : l0_3.length ≤ c0_3) (hr0_4 : Kd.C (Kd.int .i64) w A0_4 l0_4.length l0_4) (hc0_4 : l0_4.length ≤ c0_4) (h : laws_szPool.f l0_0 a0_1 l0_2 l0_3 l0_4 a1 = some r) :
  Calls Try.prog 77 #[.agg #[.slice A0_0 l0_0.length c0_0, .int .i64 a0_1, .slice A0_2 l0_2.length c0_2, .slice A0_3 l0_3.length c0_3, .slice A0_4 l0_4.length c0_4], .int .i64 a1] w fun e w' => e = .returned (.int .i64 r) ∧ Mem w [] w' [] := by
 have hu65 := Try.underlying65
 have hu63 := Try.underlying63
 have HR0_0 := Aside0.mk hr0_0
 have HC0_0 := Aside0.mk hc0_0
 clear hr0_0 hc0_0
 have HR0_2 := Aside0.mk hr0_2
 have HC0_2 := Aside0.mk hc0_2
 clear hr0_2 hc0_2
 have HR0_3 := Aside0.mk hr0_3
 have HC0_3 := Aside0.mk hc0_3
 clear hr0_3 hc0_3
 have HR0_4 := Aside0.mk hr0_4
 have HC0_4 := Aside0.mk hc0_4
 clear hr0_4 hc0_4
 have HM := Mem.nil w
 have H := h
 clear h
 unfold laws_szPool.f at H
 go_enter Try.func77, Try.ntmps77
 replace H := BN H; obtain ⟨t1354, A5, H⟩ := H
 go_upto_if 10 with (first | ((with_reducible refine gN 2 rfl ?_); refine pB 2 65 [.slice A0_0 l0_0.length c0_0, .int .i64 a0_1, .slice A0_2 l0_2.length c0_2, .slice A0_3 l0_3.length c0_3, .slice A0_4 l0_4.length c0_4] HM rfl ?_; clear HM; intro gb1353 w3 HM; obtain ⟨_,_,_,_,_,_,_,_,_,_⟩ := bk5 (HM.bx 0 rfl)) | ((with_reducible refine gC 131 rfl ?_); refine pC (some 8) rfl #[.slice A0_0 l0_0.length c0_0, .int .i64 a1] rfl Try.func131 (laws_szIntS.calls _ _ l0_0 a1 t1354 _ (HM.came HR0_0.out) HC0_0.out A5.out) ?_; rintro e w6 ⟨rfl, hd⟩; refine ⟨_, rfl, ?_⟩; replace HM := HM.drawn hd; clear hd))
 replace H := IT H; rcases H with ⟨c7, H⟩ | ⟨c7, H⟩
 ·have c7b0 := decide_eq_true c7
  clear c7
  first|rw [c7b0]|(simp only [i64_w, i32_w]; rw [c7b0])|skip
  obtain rfl := Option.some.inj H
  go_wp2
  go_ret
  exact ⟨ER, (MD HM).pick []⟩
 ·have c7b0 := decide_eq_false c7
  clear c7
  first|rw [c7b0]|(simp only [i64_w, i32_w]; rw [c7b0])|skip
  replace H := BN H; obtain ⟨t1355, A9, H⟩ := H
  obtain ⟨_,_,_,_,_,_,_,_,_,_⟩ := bk5 (HM.bx 0 rfl)
  go_upto_if 16 with (first | ((with_reducible refine gC 132 rfl ?_); refine pC (some 14) rfl #[.agg #[.int .i64 a0_1, .slice A0_2 l0_2.length c0_2, .slice A0_3 l0_3.length c0_3], .int .i64 t1354] rfl Try.func132 (laws_szAges.calls a0_1 _ _ l0_2 _ _ l0_3 t1354 t1355 _ (HM.came HR0_2.out) HC0_2.out (HM.came HR0_3.out) HC0_3.out A9.out) ?_; rintro e w10 ⟨rfl, hR⟩; refine ⟨_, rfl, ?_⟩; replace HM := HM.call hR; clear hR))
  replace H := IT H; rcases H with ⟨c11, H⟩ | ⟨c11, H⟩
  ·have c11b0 := decide_eq_true c11
   clear c11
   first|rw [c11b0]|(simp only [i64_w, i32_w]; rw [c11b0])|skip
   obtain rfl := Option.some.inj H
   go_wp2
   go_ret
   exact ⟨ER, (MD HM).pick []⟩
  ·have c11b0 := decide_eq_false c11
   clear c11
   first|rw [c11b0]|(simp only [i64_w, i32_w]; rw [c11b0])|skip
   replace H := BN H; obtain ⟨t1356, A13, H⟩ := H
   obtain ⟨_,_,_,_,_,_,_,_,_,_⟩ := bk5 (HM.bx 0 rfl)
   go_upto_if 22 with (first | ((with_reducible refine gC 131 rfl ?_); refine pC (some 20) rfl #[.slice A0_4 l0_4.length c0_4, .int .i64 t1355] rfl Try.func131 (laws_szIntS.calls _ _ l0_4 t1355 t1356 _ (HM.came HR0_4.out) HC0_4.out A13.out) ?_; rintro e w14 ⟨rfl, hd⟩; refine ⟨_, rfl, ?_⟩; replace HM := HM.drawn hd; clear hd))
   replace H := IT H; rcases H with ⟨c15, H⟩ | ⟨c15, H⟩
   ·have c15b0 := decide_eq_true c15
    clear c15
    first|rw [c15b0]|(simp only [i64_w, i32_w]; rw [c15b0])|skip
    obtain rfl := Option.some.inj H
    go_wp2
    go_ret
    exact ⟨ER, (MD HM).pick []⟩
   ·have c15b0 := decide_eq_false c15
    clear c15
    first|rw [c15b0]|(simp only [i64_w, i32_w]; rw [c15b0])|skip
    obtain rfl := Option.some.inj H
    go_wp2
    go_ret
    exact ⟨ER, (MD HM).pick []⟩
def laws_szSpot.f (a0_0 : ByteArray) (a0_1 : Int) (a1 : Int) : Option (Int) := if (wrap64 (a1 - (a0_0.size : Int))) < 0 then (some (-1)) else (some (wrap64 (a1 - (a0_0.size : Int))))
theorem laws_szSpot.calls (a0_0 : ByteArray) (a0_1 : Int) (a1 : Int) (r : Int) (w : World)  (h : laws_szSpot.f a0_0 a0_1 a1 = some r) :
  Calls Try.prog 133 #[.agg #[.string a0_0, .int .i64 a0_1], .int .i64 a1] w fun e w' => e = .returned (.int .i64 r) ∧ Mem w [] w' [] := by
 have hu184 := Try.underlying184
 have HM := Mem.nil w
 have H := h
 clear h
 unfold laws_szSpot.f at H
 go_enter Try.func133, Try.ntmps133
 go_upto_if 11 with (first | ((with_reducible refine gN 2 rfl ?_); refine pB 2 184 [.string a0_0, .int .i64 a0_1] HM rfl ?_; clear HM; intro gb1357 w3 HM; obtain ⟨_,_,_,_⟩ := bk2 (HM.bx 0 rfl)))
 replace H := IT H; rcases H with ⟨c5, H⟩ | ⟨c5, H⟩
 ·have c5b0 := decide_eq_true c5
  clear c5
  first|rw [c5b0]|(simp only [i64_w, i32_w]; rw [c5b0])|skip
  obtain rfl := Option.some.inj H
  go_wp2
  go_ret
  exact ⟨ER, (MD HM).pick []⟩
 ·have c5b0 := decide_eq_false c5
  clear c5
  first|rw [c5b0]|(simp only [i64_w, i32_w]; rw [c5b0])|skip
  obtain rfl := Option.some.inj H
  go_wp2
  go_ret
  exact ⟨ER, (MD HM).pick []⟩
def laws_szSpotS.l0 : Nat → List (S184) → Int → Int → Option (Int)
 | 0, _, _, _ => none
 | k + 1, x0, x1, x5 => if x5 < (x0.length : Int) then (if 0 ≤ x5 then ((laws_szSpot.f ((rd_T184 x0 x5).f0) ((rd_T184 x0 x5).f1) x1).bind fun t1359 => (if t1359 < 0 then (some (-1)) else (laws_szSpotS.l0 k x0 t1359 (wrap64 (x5 + 1))))) else (none)) else (some x1)
def laws_szSpotS.f (k : Nat) (l0 : List (S184)) (a1 : Int) : Option (Int) := if (wrap64 (a1 - (l0.length : Int))) < 0 then (some (-1)) else (laws_szSpotS.l0 k l0 (wrap64 (a1 - (l0.length : Int))) 0)
theorem laws_szSpotS.calls (k : Nat) (A0 : Option Addr) (c0 : Nat) (l0 : List (S184)) (a1 : Int) (r : Int) (w : World) (hr0 : Kd.C k184 w A0 l0.length l0) (hc0 : l0.length ≤ c0) (h : laws_szSpotS.f k l0 a1 = some r) :
  Calls Try.prog 78 #[.slice A0 l0.length c0, .int .i64 a1] w fun e w' => e = .returned (.int .i64 r) ∧ Mem w [] w' [] := by
 have hu184 := Try.underlying184
 have HR0 := Aside0.mk hr0
 have HC0 := Aside0.mk hc0
 clear hr0 hc0
 have HM := Mem.nil w
 have H := h
 clear h
 unfold laws_szSpotS.f at H
 go_enter Try.func78, Try.ntmps78
 go_upto_if 11 with (fail)
 replace H := IT H; rcases H with ⟨c3, H⟩ | ⟨c3, H⟩
 ·have c3b0 := decide_eq_true c3
  clear c3
  first|rw [c3b0]|(simp only [i64_w, i32_w]; rw [c3b0])|skip
  obtain rfl := Option.some.inj H
  go_wp2
  go_ret
  exact ⟨ER, (MD HM).pick []⟩
 ·have c3b0 := decide_eq_false c3
  clear c3
  first|rw [c3b0]|(simp only [i64_w, i32_w]; rw [c3b0])|skip
  have H' := Aside0.mk H
  clear H
  go_wp2
  go_loopg [1, 5] k (fun kq v1 v5 w' => ∃ (x1_1 : Int) (x5_1 : Int), v1 = .int .i64 x1_1 ∧ v5 = .int .i64 x5_1 ∧ Aside0 (laws_szSpotS.l0 kq l0 x1_1 x5_1 = some r) ∧ Aside0 (kq ≤ k) ∧ Mem w [] w' [])
  case atStart => exact ⟨(wrap64 (a1 - (l0.length : Int))), (0), RS, RS, H', ⟨Nat.le_refl _⟩, (MD HM).pick []⟩
  case round =>
   clear H' HM
   obtain ⟨x1_1, x5_1, rfl, rfl, HA, HK1, HM⟩ := hrel
   cases gk with
   | zero => exact absurd HA.out (by simp [laws_szSpotS.l0])
   | succ k1 =>
    have H := HA.out
    clear HA
    simp only [laws_szSpotS.l0] at H
    go_upto_if 15 with (fail)
    replace H := IT H; rcases H with ⟨c4, H⟩ | ⟨c4, H⟩
    ·have c4b0 := decide_eq_true c4
     clear c4
     first|rw [c4b0]|(simp only [i64_w, i32_w]; rw [c4b0])|skip
     replace H := GD H; obtain ⟨c5, H⟩ := H
     have c5b0 := decide_eq_true c5
     clear c5
     replace H := BN H; obtain ⟨t1359, A6, H⟩ := H
     have p1358 : 0 ≤ (x5_1 : Int) := of_decide_eq_true AS
     have q1358 : (x5_1 : Int) < (l0.length : Int) := of_decide_eq_true AS
     obtain ⟨ad1358, e1358, hx1358_0, hx1358_1⟩ := at_T184 (HM.came HR0.out) x5_1 p1358 q1358
     cases e1358
     replace p1358 := eq_true p1358
     replace q1358 := eq_true q1358
     go_upto_if 25 with (first | ((with_reducible refine gC 133 rfl ?_); refine pC (some 23) rfl #[.agg #[.string ((rd_T184 l0 x5_1).f0), .int .i64 ((rd_T184 l0 x5_1).f1)], .int .i64 x1_1] rfl Try.func133 (laws_szSpot.calls ((rd_T184 l0 x5_1).f0) ((rd_T184 l0 x5_1).f1) x1_1 t1359 _ A6.out) ?_; rintro e w7 ⟨rfl, hR⟩; refine ⟨_, rfl, ?_⟩; replace HM := HM.call hR; clear hR))
     replace H := IT H; rcases H with ⟨c8, H⟩ | ⟨c8, H⟩
     ·have c8b0 := decide_eq_true c8
      clear c8
      first|rw [c8b0]|(simp only [i64_w, i32_w]; rw [c8b0])|skip
      obtain rfl := Option.some.inj H
      go_wp2
      go_ret
      exact ⟨ER, (MD HM).pick []⟩
     ·have c8b0 := decide_eq_false c8
      clear c8
      first|rw [c8b0]|(simp only [i64_w, i32_w]; rw [c8b0])|skip
      have H' := Aside0.mk H
      clear H
      go_wp2
      go_roundg k1
      case measure => have := HK1.out; omega
      case rel => exact ⟨(t1359), (wrap64 (x5_1 + 1)), RS, RS, H', ⟨by have := HK1.out; omega⟩, (MD HM).pick []⟩
    ·have c4b0 := decide_eq_false c4
     clear c4
     first|rw [c4b0]|(simp only [i64_w, i32_w]; rw [c4b0])|skip
     obtain rfl := Option.some.inj H
     go_wp2
     go_ret
     exact ⟨ER, (MD HM).pick []⟩
end Go.Proofs.Ythnedklbobbkcaa.G

namespace Go.Proofs.Ythnedklbobbkcaa.G
open Go.RowKit Go.Proofs.YthnedklbobbkcaaW.PrintWords Go.Proofs.YthnedklbobbkcaaW.PrintLast Go.Proofs.YthnedklbobbkcaaW.PrintMore Go.Proofs.Ythnedklbobbkcaa.Sh
attribute [local go_sem] max2_int min2_int max_two min_two max_three min_three max_four min_four
set_option linter.unusedVariables false
set_option linter.unusedSimpArgs false
def laws_szDeedS.f (l0 : List (S193)) (a1 : Int) : Option (Int) := if (wrap64 (a1 - (l0.length : Int))) < 0 then (some (-1)) else (some (wrap64 (a1 - (l0.length : Int))))
theorem laws_szDeedS.calls (A0 : Option Addr) (c0 : Nat) (l0 : List (S193)) (a1 : Int) (r : Int) (w : World) (hr0 : Kd.C k193 w A0 l0.length l0) (hc0 : l0.length ≤ c0) (h : laws_szDeedS.f l0 a1 = some r) :
  Calls Try.prog 79 #[.slice A0 l0.length c0, .int .i64 a1] w fun e w' => e = .returned (.int .i64 r) ∧ Drawn0 w w' := by
 have HR0 := Aside0.mk hr0
 have HC0 := Aside0.mk hc0
 clear hr0 hc0
 have H : (if (wrap64 (a1 - (l0.length : Int))) < 0 then (some (-1)) else (some (wrap64 (a1 - (l0.length : Int))))) = some r := h
 clear h
 by_cases c3 : (wrap64 (a1 - (l0.length : Int))) < 0
 ·rw [if_pos c3] at H
  have c3b0 : decide ((wrap64 (a1 - (l0.length : Int))) < 0) = true := decide_eq_true c3
  clear c3
  obtain rfl := Option.some.inj H
  go_enter Try.func79, Try.ntmps79
  go_wp2
  go_ret
  exact ⟨by first | rfl | (simp; done) | (simp [*]; done), DR⟩
 ·rw [if_neg c3] at H
  have c3b0 : decide ((wrap64 (a1 - (l0.length : Int))) < 0) = false := decide_eq_false c3
  clear c3
  obtain rfl := Option.some.inj H
  go_enter Try.func79, Try.ntmps79
  go_wp2
  go_ret
  exact ⟨by first | rfl | (simp; done) | (simp [*]; done), DR⟩
end Go.Proofs.Ythnedklbobbkcaa.G

namespace Go.Proofs.Ythnedklbobbkcaa.G
open Go.RowKit Go.Proofs.YthnedklbobbkcaaW.PrintWords Go.Proofs.YthnedklbobbkcaaW.PrintLast Go.Proofs.YthnedklbobbkcaaW.PrintMore Go.Proofs.Ythnedklbobbkcaa.Sh
attribute [local go_sem] max2_int min2_int max_two min_two max_three min_three max_four min_four
set_option linter.unusedVariables false
set_option linter.unusedSimpArgs false
open Go.Proofs.Ythnedklbobbkcaa.Mm
def laws_szDesk.f (k : Nat) (a0_0 : Int) (a0_1 : Int) (l0_2 : List (S220)) (l0_3 : List (S220)) (l0_4 : List Int) (l0_5 : List Int) (a0_6 : Int) (l0_7 : List Int) (l0_8 : List (S244)) (l0_9 : List Int) (l0_10 : List (S184)) (l0_11 : List (S155)) (l0_12 : List (S193)) (a1 : Int) : Option (Int) := (laws_szThree.f k a0_0 a0_1 l0_2 l0_3 l0_4 a1).bind fun t1361 => (if t1361 < 0 then (some (-1)) else ((laws_szPool.f l0_5 a0_6 l0_7 l0_8 l0_9 t1361).bind fun t1362 => (if t1362 < 0 then (some (-1)) else ((laws_szSpotS.f k l0_10 t1362).bind fun t1363 => (if t1363 < 0 then (some (-1)) else ((laws_szUserS.f k l0_11 t1363).bind fun t1364 => (if t1364 < 0 then (some (-1)) else ((laws_szDeedS.f l0_12 t1364).bind fun t1365 => (if t1365 < 0 then (some (-1)) else (some t1365))))))))))
theorem laws_szDesk.calls (k : Nat) (a0_0 : Int) (a0_1 : Int) (A0_2 : Option Addr) (c0_2 : Nat) (l0_2 : List (S220)) (A0_3 : Option Addr) (c0_3 : Nat) (l0_3 : List (S220)) (A0_4 : Option Addr) (c0_4 : Nat) (l0_4 : List Int) (A0_5 : Option Addr) (c0_5 : Nat) (l0_5 : List Int) (a0_6 : Int) (A0_7 : Option Addr) (c0_7 : Nat) (l0_7 : List Int) (A0_8 : Option Addr) (c0_8 : Nat) (l0_8 : List (S244)) (A0_9 : Option Addr) (c0_9 : Nat) (l0_9 : List Int) (A0_10 : Option Addr) (c0_10 : Nat) (l0_10 : List (S184)) (A0_11 : Option Addr) (c0_11 : Nat) (l0_11 : List (S155)) (A0_12 : Option Addr) (c0_12 : Nat) (l0_12 : List (S193)) (a1 : Int) (r : Int) (w : World) (hr0_2 : Kd.C k220 w A0_2 l0_2.length l0_2) (hc0_2 : l0_2.length ≤ c0_2) (hr0_3 : Kd.C k220 w A0_3 l0_3.length l0_3) (hc0_3 : l0_3.length ≤ c0_3) (hr0_4 : Kd.C (Kd.int .i64) w A0_4 l0_4.length l0_4) (hc0_4 : l0_4.length ≤ c0_4) (hr0_5 : Kd.C (Kd.int .i64) w A0_5 l0_5.length l0_5) (hc0_5 : l0_5.length ≤ c0_5) (hr0_7 : Kd.C (Kd.int .i64) w A0_7 l0_7.length l0_7) (hc0_7 : l0_7.length ≤ c0_7) (hr0_8 : Kd.C k244 w A0_8 l0_8.length l0_8) (hc0_8 : l0_8.length ≤ c0_8) (hr0_9 : Kd.C (Kd.int .i64) w A0_9 l0_9.length l0_9) (hc0_9 : l0_9.length ≤ c0_9) (hr0_10 : Kd.C k184 w A0_10 l0_10.length l0_10) (hc0_10 : l0_10.length ≤ c0_10) (hr0_11 : Kd.C k155 w A0_11 l0_11.length l0_11) (hc0_11 : l0_11.length ≤ c0_11) (hr0_12 : Kd.C k193 w A0_12 l0_12.length l0_12) (hc0_12 : l0_12.length ≤ c0_12) (h : laws_szDesk.f k a0_0 a0_1 l0_2 l0_3 l0_4 l0_5 a0_6 l0_7 l0_8 l0_9 l0_10 l0_11 l0_12 a1 = some r) :
  Calls Try.prog 28 #[.agg #[.int .i64 a0_0, .int .i64 a0_1, .slice A0_2 l0_2.length c0_2, .slice A0_3 l0_3.length c0_3, .slice A0_4 l0_4.length c0_4, .slice A0_5 l0_5.length c0_5, .int .i64 a0_6, .slice A0_7 l0_7.length c0_7, .slice A0_8 l0_8.length c0_8, .slice A0_9 l0_9.length c0_9, .slice A0_10 l0_10.length c0_10, .slice A0_11 l0_11.length c0_11, .slice A0_12 l0_12.length c0_12], .int .i64 a1] w fun e w' => e = .returned (.int .i64 r) ∧ Mem w [] w' [] := by
 have hu70 := Try.underlying70
 have hu60 := Try.underlying60
 have hu65 := Try.underlying65
 have HR0_2 := Aside0.mk hr0_2
 have HC0_2 := Aside0.mk hc0_2
 clear hr0_2 hc0_2
 have HR0_3 := Aside0.mk hr0_3
 have HC0_3 := Aside0.mk hc0_3
 clear hr0_3 hc0_3
 have HR0_4 := Aside0.mk hr0_4
 have HC0_4 := Aside0.mk hc0_4
 clear hr0_4 hc0_4
 have HR0_5 := Aside0.mk hr0_5
 have HC0_5 := Aside0.mk hc0_5
 clear hr0_5 hc0_5
 have HR0_7 := Aside0.mk hr0_7
 have HC0_7 := Aside0.mk hc0_7
 clear hr0_7 hc0_7
 have HR0_8 := Aside0.mk hr0_8
 have HC0_8 := Aside0.mk hc0_8
 clear hr0_8 hc0_8
 have HR0_9 := Aside0.mk hr0_9
 have HC0_9 := Aside0.mk hc0_9
 clear hr0_9 hc0_9
 have HR0_10 := Aside0.mk hr0_10
 have HC0_10 := Aside0.mk hc0_10
 clear hr0_10 hc0_10
 have HR0_11 := Aside0.mk hr0_11
 have HC0_11 := Aside0.mk hc0_11
 clear hr0_11 hc0_11
 have HR0_12 := Aside0.mk hr0_12
 have HC0_12 := Aside0.mk hc0_12
 clear hr0_12 hc0_12
 have HM := Mem.nil w
 have H := h
 clear h
 unfold laws_szDesk.f at H
 go_enter Try.func28, Try.ntmps28
 replace H := BN H; obtain ⟨t1361, A5, H⟩ := H
 go_upto_if 10 with (first | ((with_reducible refine gN 2 rfl ?_); refine pB 2 70 [.int .i64 a0_0, .int .i64 a0_1, .slice A0_2 l0_2.length c0_2, .slice A0_3 l0_3.length c0_3, .slice A0_4 l0_4.length c0_4, .slice A0_5 l0_5.length c0_5, .int .i64 a0_6, .slice A0_7 l0_7.length c0_7, .slice A0_8 l0_8.length c0_8, .slice A0_9 l0_9.length c0_9, .slice A0_10 l0_10.length c0_10, .slice A0_11 l0_11.length c0_11, .slice A0_12 l0_12.length c0_12] HM rfl ?_; clear HM; intro gb1360 w3 HM; obtain ⟨_,_,_,_,_,_,_,_,_,_,_,_,_,_,_,_,_,_,_,_,_,_,_,_,_,_⟩ := bk13 (HM.bx 0 rfl)) | ((with_reducible refine gC 76 rfl ?_); refine pC (some 8) rfl #[.agg #[.int .i64 a0_0, .int .i64 a0_1, .slice A0_2 l0_2.length c0_2, .slice A0_3 l0_3.length c0_3, .slice A0_4 l0_4.length c0_4], .int .i64 a1] rfl Try.func76 (laws_szThree.calls k a0_0 a0_1 _ _ l0_2 _ _ l0_3 _ _ l0_4 a1 t1361 _ (HM.came HR0_2.out) HC0_2.out (HM.came HR0_3.out) HC0_3.out (HM.came HR0_4.out) HC0_4.out A5.out) ?_; rintro e w6 ⟨rfl, hR⟩; refine ⟨_, rfl, ?_⟩; replace HM := HM.call hR; clear hR))
 replace HM := nzM HM
 replace H := IT H; rcases H with ⟨c7, H⟩ | ⟨c7, H⟩
 ·have c7b0 := decide_eq_true c7
  clear c7
  first|rw [c7b0]|(simp only [i64_w, i32_w]; rw [c7b0])|skip
  obtain rfl := Option.some.inj H
  go_wp2
  go_ret
  exact ⟨ER, (MD HM).pick []⟩
 ·have c7b0 := decide_eq_false c7
  clear c7
  first|rw [c7b0]|(simp only [i64_w, i32_w]; rw [c7b0])|skip
  replace H := BN H; obtain ⟨t1362, A9, H⟩ := H
  obtain ⟨_,_,_,_,_,_,_,_,_,_,_,_,_,_,_,_,_,_,_,_,_,_,_,_,_,_⟩ := bk13 (HM.bx 0 rfl)
  go_upto_if 16 with (first | ((with_reducible refine gC 77 rfl ?_); refine pC (some 14) rfl #[.agg #[.slice A0_5 l0_5.length c0_5, .int .i64 a0_6, .slice A0_7 l0_7.length c0_7, .slice A0_8 l0_8.length c0_8, .slice A0_9 l0_9.length c0_9], .int .i64 t1361] rfl Try.func77 (laws_szPool.calls _ _ l0_5 a0_6 _ _ l0_7 _ _ l0_8 _ _ l0_9 t1361 t1362 _ (HM.came HR0_5.out) HC0_5.out (HM.came HR0_7.out) HC0_7.out (HM.came HR0_8.out) HC0_8.out (HM.came HR0_9.out) HC0_9.out A9.out) ?_; rintro e w10 ⟨rfl, hR⟩; refine ⟨_, rfl, ?_⟩; replace HM := HM.call hR; clear hR))
  replace H := IT H; rcases H with ⟨c11, H⟩ | ⟨c11, H⟩
  ·have c11b0 := decide_eq_true c11
   clear c11
   first|rw [c11b0]|(simp only [i64_w, i32_w]; rw [c11b0])|skip
   obtain rfl := Option.some.inj H
   go_wp2
   go_ret
   exact ⟨ER, (MD HM).pick []⟩
  ·have c11b0 := decide_eq_false c11
   clear c11
   first|rw [c11b0]|(simp only [i64_w, i32_w]; rw [c11b0])|skip
   replace H := BN H; obtain ⟨t1363, A13, H⟩ := H
   obtain ⟨_,_,_,_,_,_,_,_,_,_,_,_,_,_,_,_,_,_,_,_,_,_,_,_,_,_⟩ := bk13 (HM.bx 0 rfl)
   go_upto_if 22 with (first | ((with_reducible refine gC 78 rfl ?_); refine pC (some 20) rfl #[.slice A0_10 l0_10.length c0_10, .int .i64 t1362] rfl Try.func78 (laws_szSpotS.calls k _ _ l0_10 t1362 t1363 _ (HM.came HR0_10.out) HC0_10.out A13.out) ?_; rintro e w14 ⟨rfl, hR⟩; refine ⟨_, rfl, ?_⟩; replace HM := HM.call hR; clear hR))
   replace H := IT H; rcases H with ⟨c15, H⟩ | ⟨c15, H⟩
   ·have c15b0 := decide_eq_true c15
    clear c15
    first|rw [c15b0]|(simp only [i64_w, i32_w]; rw [c15b0])|skip
    obtain rfl := Option.some.inj H
    go_wp2
    go_ret
    exact ⟨ER, (MD HM).pick []⟩
   ·have c15b0 := decide_eq_false c15
    clear c15
    first|rw [c15b0]|(simp only [i64_w, i32_w]; rw [c15b0])|skip
    replace H := BN H; obtain ⟨t1364, A17, H⟩ := H
    obtain ⟨_,_,_,_,_,_,_,_,_,_,_,_,_,_,_,_,_,_,_,_,_,_,_,_,_,_⟩ := bk13 (HM.bx 0 rfl)
    go_upto_if 28 with (first | ((with_reducible refine gC 42 rfl ?_); refine pC (some 26) rfl #[.slice A0_11 l0_11.length c0_11, .int .i64 t1363] rfl Try.func42 (laws_szUserS.calls k _ _ l0_11 t1363 t1364 _ (HM.came HR0_11.out) HC0_11.out A17.out) ?_; rintro e w18 ⟨rfl, hR⟩; refine ⟨_, rfl, ?_⟩; replace HM := HM.call hR; clear hR))
    replace H := IT H; rcases H with ⟨c19, H⟩ | ⟨c19, H⟩
    ·have c19b0 := decide_eq_true c19
     clear c19
     first|rw [c19b0]|(simp only [i64_w, i32_w]; rw [c19b0])|skip
     obtain rfl := Option.some.inj H
     go_wp2
     go_ret
     exact ⟨ER, (MD HM).pick []⟩
    ·have c19b0 := decide_eq_false c19
     clear c19
     first|rw [c19b0]|(simp only [i64_w, i32_w]; rw [c19b0])|skip
     replace H := BN H; obtain ⟨t1365, A21, H⟩ := H
     obtain ⟨_,_,_,_,_,_,_,_,_,_,_,_,_,_,_,_,_,_,_,_,_,_,_,_,_,_⟩ := bk13 (HM.bx 0 rfl)
     go_upto_if 34 with (first | ((with_reducible refine gC 79 rfl ?_); refine pC (some 32) rfl #[.slice A0_12 l0_12.length c0_12, .int .i64 t1364] rfl Try.func79 (laws_szDeedS.calls _ _ l0_12 t1364 t1365 _ (HM.came HR0_12.out) HC0_12.out A21.out) ?_; rintro e w22 ⟨rfl, hd⟩; refine ⟨_, rfl, ?_⟩; replace HM := HM.drawn hd; clear hd))
     replace H := IT H; rcases H with ⟨c23, H⟩ | ⟨c23, H⟩
     ·have c23b0 := decide_eq_true c23
      clear c23
      first|rw [c23b0]|(simp only [i64_w, i32_w]; rw [c23b0])|skip
      obtain rfl := Option.some.inj H
      go_wp2
      go_ret
      exact ⟨ER, (MD HM).pick []⟩
     ·have c23b0 := decide_eq_false c23
      clear c23
      first|rw [c23b0]|(simp only [i64_w, i32_w]; rw [c23b0])|skip
      obtain rfl := Option.some.inj H
      go_wp2
      go_ret
      exact ⟨ER, (MD HM).pick []⟩
def laws_toOp.f (a0_0 : Int) (a0_1 : ByteArray) (a0_2 : ByteArray) : Option (Int × ByteArray × ByteArray) := some (a0_0, a0_1, a0_2)
theorem laws_toOp.calls (a0_0 : Int) (a0_1 : ByteArray) (a0_2 : ByteArray) (r1 : Int) (r2 : ByteArray) (r3 : ByteArray) (w : World)  (h : laws_toOp.f a0_0 a0_1 a0_2 = some (r1, r2, r3)) :
  Calls Try.prog 190 #[.agg #[.int .i64 a0_0, .string a0_1, .string a0_2]] w fun e w' => e = .returned (.agg #[.int .i64 r1, .string r2, .string r3]) ∧ Mem w [] w' [] := by
 have hu228 := Try.underlying228
 have hu43 := Try.underlying43
 have HM := Mem.nil w
 have H := h
 clear h
 unfold laws_toOp.f at H
 go_enter Try.func190, Try.ntmps190
 simp only [Option.some.injEq, Prod.mk.injEq] at H
 obtain ⟨rfl, rfl, rfl⟩ := H
 go_wp2_with (first | ((with_reducible refine gN 1 rfl ?_); refine pB 1 228 [.int .i64 a0_0, .string a0_1, .string a0_2] HM rfl ?_; clear HM; intro gb1375 w2 HM) | ((with_reducible refine gN 2 rfl ?_); refine pB 2 43 [.int .i64 0, .string (⟨#[]⟩ : ByteArray), .string (⟨#[]⟩ : ByteArray)] HM rfl ?_; clear HM; intro gb1376 w3 HM) | ((with_reducible refine gN 3 rfl ?_); refine pB 3 43 [.int .i64 0, .string (⟨#[]⟩ : ByteArray), .string (⟨#[]⟩ : ByteArray)] HM rfl ?_; clear HM; intro gb1377 w4 HM; obtain ⟨_,_,_,_,_,_⟩ := bk3 (HM.bx 0 rfl)) | ((with_reducible refine gS 6 rfl ?_); refine pS 2 6 0 [.int .i64 a0_0] HM rfl rfl ?_; clear HM; intro w6 HM; obtain ⟨_,_,_,_,_,_⟩ := bk3 (HM.bx 0 rfl)) | ((with_reducible refine gS 9 rfl ?_); refine pS 2 9 1 [.string a0_1] HM rfl rfl ?_; clear HM; intro w8 HM; obtain ⟨_,_,_,_,_,_⟩ := bk3 (HM.bx 0 rfl)) | ((with_reducible refine gS 12 rfl ?_); refine pS 2 12 2 [.string a0_2] HM rfl rfl ?_; clear HM; intro w10 HM; obtain ⟨_,_,_,_,_,_⟩ := bk3 (HM.bx 2 rfl)) | ((with_reducible refine gS 2 rfl ?_); refine pS 1 2 0 [.int .i64 a0_0, .string a0_1, .string a0_2] HM rfl rfl ?_; clear HM; intro w12 HM))
 refine bodyPost_ret (results_cell_row rfl _ _ gb1376 43 #[.int .i64 a0_0, .string a0_1, .string a0_2] (0, 0) _ rfl (HM.bx 1 rfl) Try.underlying43 rfl (by kernel_rfl)) rfl ?_
 exact ⟨ER, (MD HM).pick []⟩
def laws_toOpS.l0 : Nat → List (S228) → List (S43) → Int → Option ((List (S43)))
 | 0, _, _, _ => none
 | k + 1, x0, x3, x4 => if x4 < (x0.length : Int) then (if 0 ≤ x4 then ((laws_toOp.f ((rd_T228 x0 x4).f0) ((rd_T228 x0 x4).f1) ((rd_T228 x0 x4).f2)).bind fun bt1382 => (if x4 < (x3.length : Int) then (laws_toOpS.l0 k x0 (x3.set (x4 : Int).toNat (⟨bt1382.1, bt1382.2.1, bt1382.2.2⟩ : S43)) (wrap64 (x4 + 1))) else (none))) else (none)) else (some x3)
def laws_toOpS.f (k : Nat) (l0 : List (S228)) : Option ((List (S43))) := if 0 ≤ (l0.length : Int) then (if ((l0.length : Int) : Int).toNat ≤ 7036874417766 then (laws_toOpS.l0 k l0 (List.replicate ((l0.length : Int) : Int).toNat z43) 0) else (none)) else (none)
theorem laws_toOpS.calls (k : Nat) (A0 : Option Addr) (c0 : Nat) (l0 : List (S228)) (r : List (S43)) (w : World) (hr0 : Kd.C k228 w A0 l0.length l0) (hc0 : l0.length ≤ c0) (h : laws_toOpS.f k l0 = some r) :
  Calls Try.prog 150 #[.slice A0 l0.length c0] w fun e w' => ∃ v0_ : Value, e = .returned (v0_) ∧ Mem w [] w' [rowR k43 43 v0_ r] := by
 have hu228 := Try.underlying228
 have hu43 := Try.underlying43
 have HR0 := Aside0.mk hr0
 have HC0 := Aside0.mk hc0
 clear hr0 hc0
 have HM := Mem.nil w
 have H := h
 clear h
 unfold laws_toOpS.f at H
 go_enter Try.func150, Try.ntmps150
 replace H := GD H; obtain ⟨c2, H⟩ := H
 have c2b0 := eq_true c2
 have c2b1 : decide (0 ≤ (l0.length : Int)) = true := decide_eq_true c2
 clear c2
 replace H := GD H; obtain ⟨c3, H⟩ := H
 have c3b0 := eq_true c3
 have c3b1 : decide (((l0.length : Int) : Int).toNat ≤ 7036874417766) = true := decide_eq_true c3
 clear c3
 have H' := Aside0.mk H
 clear H
 go_wp2_with (first | ((with_reducible refine gN 7 rfl ?_); refine pM 7 k43 43 40 _ _ (l0.length : Int) (.agg #[(.int .i64 0), (.string ⟨#[]⟩), (.string ⟨#[]⟩)]) 40 z43 HM rfl Try.underlying40 info43 (of_decide_eq_true AS) (Nat.le_trans (Nat.mul_le_mul_right _ (of_decide_eq_true AS : (l0.length : Int).toNat ≤ 7036874417766)) (by omega)) (hzero := (k43_mkM _ _ _ z43)) ?_; clear HM; intro v1379 w4 HM))
 go_loopg [4] k (fun kq v4 w' => ∃ (x3_1 : List (S43)) (x4_1 : Int), v4 = .int .i64 x4_1 ∧ Aside0 (laws_toOpS.l0 kq l0 x3_1 x4_1 = some r) ∧ Aside0 (kq ≤ k) ∧ Mem w [] w' [rowR k43 43 v1379 x3_1])
 case atStart => exact ⟨((List.replicate ((l0.length : Int) : Int).toNat z43)), (0), RS, H', ⟨Nat.le_refl _⟩, (MD HM).pick [0]⟩
 case round =>
  clear H' HM
  obtain ⟨x3_1, x4_1, rfl, HA, HK1, HM⟩ := hrel
  cases gk with
  | zero => exact absurd HA.out (by simp [laws_toOpS.l0])
  | succ k1 =>
   have H := HA.out
   clear HA
   simp only [laws_toOpS.l0] at H
   go_upto_if 11 with (fail)
   replace H := IT H; rcases H with ⟨c5, H⟩ | ⟨c5, H⟩
   ·have c5b0 := decide_eq_true c5
    clear c5
    first|rw [c5b0]|(simp only [i64_w, i32_w]; rw [c5b0])|skip
    replace H := GD H; obtain ⟨c6, H⟩ := H
    have c6b0 := decide_eq_true c6
    clear c6
    replace H := BN H; obtain ⟨⟨t1382, t1383, t1384⟩, A7, H⟩ := H
    replace H := GD H; obtain ⟨c9, H⟩ := H
    have c9b0 : decide (x4_1 < (x3_1.length : Int)) = true := decide_eq_true c9
    clear c9
    have H' := Aside0.mk H
    clear H
    have p1381 : 0 ≤ (x4_1 : Int) := of_decide_eq_true AS
    have q1381 : (x4_1 : Int) < (l0.length : Int) := of_decide_eq_true AS
    obtain ⟨ad1381, e1381, hx1381_0, hx1381_1, hx1381_2⟩ := at_T228 (HM.came HR0.out) x4_1 p1381 q1381
    cases e1381
    replace p1381 := eq_true p1381
    replace q1381 := eq_true q1381
    go_wp2_with (first | ((with_reducible refine gC 190 rfl ?_); refine pC (some 20) rfl #[.agg #[.int .i64 ((rd_T228 l0 x4_1).f0), .string ((rd_T228 l0 x4_1).f1), .string ((rd_T228 l0 x4_1).f2)]] rfl Try.func190 (laws_toOp.calls ((rd_T228 l0 x4_1).f0) ((rd_T228 l0 x4_1).f1) ((rd_T228 l0 x4_1).f2) t1382 t1383 t1384 _ A7.out) ?_; rintro e w8 ⟨rfl, hR⟩; refine ⟨_, rfl, ?_⟩; replace HM := HM.call hR; clear hR; obtain ⟨Xo11, ko11, rfl⟩ := HM.rdR 0 rfl; have p10 : 0 ≤ (x4_1 : Int) := of_decide_eq_true AS; have q10 : (x4_1 : Int) < ((x3_1.length : Int) : Int) := of_decide_eq_true AS; obtain ⟨go10, ef10⟩ := HM.form 0 rfl (by have h_ := (HM.CR 0 rfl).1; omega); subst ef10; obtain ⟨hx10_0, hx10_1, hx10_2, hf10_0, hf10_1, hf10_2⟩ := HM.el3 0 rfl z43 (x4_1 : Int) p10 (by have h_ := (HM.CR 0 rfl).1; omega) (.int .i64 ((rd_T43 x3_1 x4_1).f0)) (.string ((rd_T43 x3_1 x4_1).f1)) (.string ((rd_T43 x3_1 x4_1).f2)) (fun _ _ h => k43_openM h); replace p10 := eq_true p10; replace q10 := eq_true q10) | ((with_reducible refine gS 21 rfl ?_); refine pPR 0 21 (x4_1 : Int) 0 [.int .i64 t1382, .string t1383, .string t1384] k43 43 x3_1 (⟨t1382, t1383, t1384⟩ : S43) z43 [.int .i64 ((rd_T43 x3_1 x4_1).f0), .string ((rd_T43 x3_1 x4_1).f1), .string ((rd_T43 x3_1 x4_1).f2)] HM rfl rfl (of_decide_eq_true AS) (by have h_ : (x4_1 : Int) < ((x3_1.length : Int) : Int) := of_decide_eq_true AS; have e_ := (HM.CR 0 rfl).1; omega) (fun _ _ h => k43_openM h) (k43_mkM _ _ _ (⟨t1382, t1383, t1384⟩ : S43)) ?_; clear HM; intro w12 HM))
    go_roundg k1
    case measure => have := HK1.out; omega
    case rel => exact ⟨((x3_1.set (x4_1 : Int).toNat (⟨t1382, t1383, t1384⟩ : S43))), (wrap64 (x4_1 + 1)), RS, H', ⟨by have := HK1.out; omega⟩, (MD HM).pick [0]⟩
   ·have c5b0 : decide (x4_1 < (l0.length : Int)) = false := decide_eq_false c5
    clear c5
    first|rw [c5b0]|(simp only [i64_w, i32_w]; rw [c5b0])|skip
    obtain rfl := Option.some.inj H
    go_wp2
    go_ret
    exact ⟨_, ER, (MD HM).pick [0]⟩
def laws_toReply.f (a0_0 : Bool) (a0_1 : ByteArray) (a0_2 : ByteArray) : Option (Bool × ByteArray × ByteArray) := some (a0_0, a0_1, a0_2)
theorem laws_toReply.calls (a0_0 : Bool) (a0_1 : ByteArray) (a0_2 : ByteArray) (r1 : Bool) (r2 : ByteArray) (r3 : ByteArray) (w : World)  (h : laws_toReply.f a0_0 a0_1 a0_2 = some (r1, r2, r3)) :
  Calls Try.prog 191 #[.agg #[.bool a0_0, .string a0_1, .string a0_2]] w fun e w' => e = .returned (.agg #[.bool r1, .string r2, .string r3]) ∧ Mem w [] w' [] := by
 have hu230 := Try.underlying230
 have hu150 := Try.underlying150
 have HM := Mem.nil w
 have H := h
 clear h
 unfold laws_toReply.f at H
 go_enter Try.func191, Try.ntmps191
 simp only [Option.some.injEq, Prod.mk.injEq] at H
 obtain ⟨rfl, rfl, rfl⟩ := H
 go_wp2_with (first | ((with_reducible refine gN 1 rfl ?_); refine pB 1 230 [.bool a0_0, .string a0_1, .string a0_2] HM rfl ?_; clear HM; intro gb1386 w2 HM) | ((with_reducible refine gN 2 rfl ?_); refine pB 2 150 [.bool false, .string (⟨#[]⟩ : ByteArray), .string (⟨#[]⟩ : ByteArray)] HM rfl ?_; clear HM; intro gb1387 w3 HM) | ((with_reducible refine gN 3 rfl ?_); refine pB 3 150 [.bool false, .string (⟨#[]⟩ : ByteArray), .string (⟨#[]⟩ : ByteArray)] HM rfl ?_; clear HM; intro gb1388 w4 HM; obtain ⟨_,_,_,_,_,_⟩ := bk3 (HM.bx 0 rfl)) | ((with_reducible refine gS 6 rfl ?_); refine pS 2 6 0 [.bool a0_0] HM rfl rfl ?_; clear HM; intro w6 HM; obtain ⟨_,_,_,_,_,_⟩ := bk3 (HM.bx 0 rfl)) | ((with_reducible refine gS 9 rfl ?_); refine pS 2 9 1 [.string a0_1] HM rfl rfl ?_; clear HM; intro w8 HM; obtain ⟨_,_,_,_,_,_⟩ := bk3 (HM.bx 0 rfl)) | ((with_reducible refine gS 12 rfl ?_); refine pS 2 12 2 [.string a0_2] HM rfl rfl ?_; clear HM; intro w10 HM; obtain ⟨_,_,_,_,_,_⟩ := bk3 (HM.bx 2 rfl)) | ((with_reducible refine gS 2 rfl ?_); refine pS 1 2 0 [.bool a0_0, .string a0_1, .string a0_2] HM rfl rfl ?_; clear HM; intro w12 HM))
 refine bodyPost_ret (results_cell_row rfl _ _ gb1387 150 #[.bool a0_0, .string a0_1, .string a0_2] (0, 0) _ rfl (HM.bx 1 rfl) Try.underlying150 rfl (by kernel_rfl)) rfl ?_
 exact ⟨ER, (MD HM).pick []⟩
def laws_toReplyS.l0 : Nat → List (S230) → List (S150) → Int → Option ((List (S150)))
 | 0, _, _, _ => none
 | k + 1, x0, x3, x4 => if x4 < (x0.length : Int) then (if 0 ≤ x4 then ((laws_toReply.f ((rd_T230 x0 x4).f0) ((rd_T230 x0 x4).f1) ((rd_T230 x0 x4).f2)).bind fun bt1393 => (if x4 < (x3.length : Int) then (laws_toReplyS.l0 k x0 (x3.set (x4 : Int).toNat (⟨bt1393.1, bt1393.2.1, bt1393.2.2⟩ : S150)) (wrap64 (x4 + 1))) else (none))) else (none)) else (some x3)
def laws_toReplyS.f (k : Nat) (l0 : List (S230)) : Option ((List (S150))) := if 0 ≤ (l0.length : Int) then (if ((l0.length : Int) : Int).toNat ≤ 7036874417766 then (laws_toReplyS.l0 k l0 (List.replicate ((l0.length : Int) : Int).toNat z150) 0) else (none)) else (none)
theorem laws_toReplyS.calls (k : Nat) (A0 : Option Addr) (c0 : Nat) (l0 : List (S230)) (r : List (S150)) (w : World) (hr0 : Kd.C k230 w A0 l0.length l0) (hc0 : l0.length ≤ c0) (h : laws_toReplyS.f k l0 = some r) :
  Calls Try.prog 151 #[.slice A0 l0.length c0] w fun e w' => ∃ v0_ : Value, e = .returned (v0_) ∧ Mem w [] w' [rowR k150 150 v0_ r] := by
 have hu230 := Try.underlying230
 have hu150 := Try.underlying150
 have HR0 := Aside0.mk hr0
 have HC0 := Aside0.mk hc0
 clear hr0 hc0
 have HM := Mem.nil w
 have H := h
 clear h
 unfold laws_toReplyS.f at H
 go_enter Try.func151, Try.ntmps151
 replace H := GD H; obtain ⟨c2, H⟩ := H
 have c2b0 := eq_true c2
 have c2b1 : decide (0 ≤ (l0.length : Int)) = true := decide_eq_true c2
 clear c2
 replace H := GD H; obtain ⟨c3, H⟩ := H
 have c3b0 := eq_true c3
 have c3b1 : decide (((l0.length : Int) : Int).toNat ≤ 7036874417766) = true := decide_eq_true c3
 clear c3
 have H' := Aside0.mk H
 clear H
 go_wp2_with (first | ((with_reducible refine gN 7 rfl ?_); refine pM 7 k150 150 89 _ _ (l0.length : Int) (.agg #[(.bool false), (.string ⟨#[]⟩), (.string ⟨#[]⟩)]) 40 z150 HM rfl Try.underlying89 info150 (of_decide_eq_true AS) (Nat.le_trans (Nat.mul_le_mul_right _ (of_decide_eq_true AS : (l0.length : Int).toNat ≤ 7036874417766)) (by omega)) (hzero := (k150_mkM _ _ _ z150)) ?_; clear HM; intro v1390 w4 HM))
 go_loopg [4] k (fun kq v4 w' => ∃ (x3_1 : List (S150)) (x4_1 : Int), v4 = .int .i64 x4_1 ∧ Aside0 (laws_toReplyS.l0 kq l0 x3_1 x4_1 = some r) ∧ Aside0 (kq ≤ k) ∧ Mem w [] w' [rowR k150 150 v1390 x3_1])
 case atStart => exact ⟨((List.replicate ((l0.length : Int) : Int).toNat z150)), (0), RS, H', ⟨Nat.le_refl _⟩, (MD HM).pick [0]⟩
 case round =>
  clear H' HM
  obtain ⟨x3_1, x4_1, rfl, HA, HK1, HM⟩ := hrel
  cases gk with
  | zero => exact absurd HA.out (by simp [laws_toReplyS.l0])
  | succ k1 =>
   have H := HA.out
   clear HA
   simp only [laws_toReplyS.l0] at H
   go_upto_if 11 with (fail)
   replace H := IT H; rcases H with ⟨c5, H⟩ | ⟨c5, H⟩
   ·have c5b0 := decide_eq_true c5
    clear c5
    first|rw [c5b0]|(simp only [i64_w, i32_w]; rw [c5b0])|skip
    replace H := GD H; obtain ⟨c6, H⟩ := H
    have c6b0 := decide_eq_true c6
    clear c6
    replace H := BN H; obtain ⟨⟨t1393, t1394, t1395⟩, A7, H⟩ := H
    replace H := GD H; obtain ⟨c9, H⟩ := H
    have c9b0 : decide (x4_1 < (x3_1.length : Int)) = true := decide_eq_true c9
    clear c9
    have H' := Aside0.mk H
    clear H
    have p1392 : 0 ≤ (x4_1 : Int) := of_decide_eq_true AS
    have q1392 : (x4_1 : Int) < (l0.length : Int) := of_decide_eq_true AS
    obtain ⟨ad1392, e1392, hx1392_0, hx1392_1, hx1392_2⟩ := at_T230 (HM.came HR0.out) x4_1 p1392 q1392
    cases e1392
    replace p1392 := eq_true p1392
    replace q1392 := eq_true q1392
    go_wp2_with (first | ((with_reducible refine gC 191 rfl ?_); refine pC (some 20) rfl #[.agg #[.bool ((rd_T230 l0 x4_1).f0), .string ((rd_T230 l0 x4_1).f1), .string ((rd_T230 l0 x4_1).f2)]] rfl Try.func191 (laws_toReply.calls ((rd_T230 l0 x4_1).f0) ((rd_T230 l0 x4_1).f1) ((rd_T230 l0 x4_1).f2) t1393 t1394 t1395 _ A7.out) ?_; rintro e w8 ⟨rfl, hR⟩; refine ⟨_, rfl, ?_⟩; replace HM := HM.call hR; clear hR; obtain ⟨Xo11, ko11, rfl⟩ := HM.rdR 0 rfl; have p10 : 0 ≤ (x4_1 : Int) := of_decide_eq_true AS; have q10 : (x4_1 : Int) < ((x3_1.length : Int) : Int) := of_decide_eq_true AS; obtain ⟨go10, ef10⟩ := HM.form 0 rfl (by have h_ := (HM.CR 0 rfl).1; omega); subst ef10; obtain ⟨hx10_0, hx10_1, hx10_2, hf10_0, hf10_1, hf10_2⟩ := HM.el3 0 rfl z150 (x4_1 : Int) p10 (by have h_ := (HM.CR 0 rfl).1; omega) (.bool ((rd_T150 x3_1 x4_1).f0)) (.string ((rd_T150 x3_1 x4_1).f1)) (.string ((rd_T150 x3_1 x4_1).f2)) (fun _ _ h => k150_openM h); replace p10 := eq_true p10; replace q10 := eq_true q10) | ((with_reducible refine gS 21 rfl ?_); refine pPR 0 21 (x4_1 : Int) 0 [.bool t1393, .string t1394, .string t1395] k150 150 x3_1 (⟨t1393, t1394, t1395⟩ : S150) z150 [.bool ((rd_T150 x3_1 x4_1).f0), .string ((rd_T150 x3_1 x4_1).f1), .string ((rd_T150 x3_1 x4_1).f2)] HM rfl rfl (of_decide_eq_true AS) (by have h_ : (x4_1 : Int) < ((x3_1.length : Int) : Int) := of_decide_eq_true AS; have e_ := (HM.CR 0 rfl).1; omega) (fun _ _ h => k150_openM h) (k150_mkM _ _ _ (⟨t1393, t1394, t1395⟩ : S150)) ?_; clear HM; intro w12 HM))
    go_roundg k1
    case measure => have := HK1.out; omega
    case rel => exact ⟨((x3_1.set (x4_1 : Int).toNat (⟨t1393, t1394, t1395⟩ : S150))), (wrap64 (x4_1 + 1)), RS, H', ⟨by have := HK1.out; omega⟩, (MD HM).pick [0]⟩
   ·have c5b0 : decide (x4_1 < (l0.length : Int)) = false := decide_eq_false c5
    clear c5
    first|rw [c5b0]|(simp only [i64_w, i32_w]; rw [c5b0])|skip
    obtain rfl := Option.some.inj H
    go_wp2
    go_ret
    exact ⟨_, ER, (MD HM).pick [0]⟩
def laws_toUser.f (k : Nat) (l0_0 : List (S228)) (a0_1 : Int) (a0_2 : Int) (a0_3 : Int) (l0_4 : List (S230)) : Option ((List (S43)) × Int × Int × Int × (List (S150))) := (laws_toOpS.f k l0_0).bind fun t1400 => ((laws_toReplyS.f k l0_4).bind fun t1403 => (some (t1400, a0_1, a0_2, a0_3, t1403)))
theorem laws_toUser.calls (k : Nat) (A0_0 : Option Addr) (c0_0 : Nat) (l0_0 : List (S228)) (a0_1 : Int) (a0_2 : Int) (a0_3 : Int) (A0_4 : Option Addr) (c0_4 : Nat) (l0_4 : List (S230)) (r1 : List (S43)) (r2 : Int) (r3 : Int) (r4 : Int) (r5 : List (S150)) (w : World) (hr0_0 : Kd.C k228 w A0_0 l0_0.length l0_0) (hc0_0 : l0_0.length ≤ c0_0) (hr0_4 : Kd.C k230 w A0_4 l0_4.length l0_4) (hc0_4 : l0_4.length ≤ c0_4) (h : laws_toUser.f k l0_0 a0_1 a0_2 a0_3 l0_4 = some (r1, r2, r3, r4, r5)) :
  Calls Try.prog 98 #[.agg #[.slice A0_0 l0_0.length c0_0, .int .i64 a0_1, .int .i64 a0_2, .int .i64 a0_3, .slice A0_4 l0_4.length c0_4]] w fun e w' => ∃ v0_ v4_ : Value, e = .returned (.agg #[v0_, .int .i64 r2, .int .i64 r3, .int .i64 r4, v4_]) ∧ Mem w [] w' [rowR k43 43 v0_ r1, rowR k150 150 v4_ r5] := by
 have hu155 := Try.underlying155
 have hu135 := Try.underlying135
 have HR0_0 := Aside0.mk hr0_0
 have HC0_0 := Aside0.mk hc0_0
 clear hr0_0 hc0_0
 have HR0_4 := Aside0.mk hr0_4
 have HC0_4 := Aside0.mk hc0_4
 clear hr0_4 hc0_4
 have HM := Mem.nil w
 have H := h
 clear h
 unfold laws_toUser.f at H
 go_enter Try.func98, Try.ntmps98
 replace H := BN H; obtain ⟨t1400, A6, H⟩ := H
 replace H := BN H; obtain ⟨t1403, A17, H⟩ := H
 simp only [Option.some.injEq, Prod.mk.injEq] at H
 obtain ⟨rfl, rfl, rfl, rfl, rfl⟩ := H
 go_wp2_with (first | ((with_reducible refine gN 1 rfl ?_); refine pB 1 155 [.slice A0_0 l0_0.length c0_0, .int .i64 a0_1, .int .i64 a0_2, .int .i64 a0_3, .slice A0_4 l0_4.length c0_4] HM rfl ?_; clear HM; intro gb1397 w2 HM) | ((with_reducible refine gN 2 rfl ?_); refine pB 2 135 [.slice none 0 0, .int .i64 0, .int .i64 0, .int .i64 0, .slice none 0 0] HM rfl ?_; clear HM; intro gb1398 w3 HM) | ((with_reducible refine gN 3 rfl ?_); refine pB 3 135 [.slice none 0 0, .int .i64 0, .int .i64 0, .int .i64 0, .slice none 0 0] HM rfl ?_; clear HM; intro gb1399 w4 HM; obtain ⟨_,_,_,_,_,_,_,_,_,_⟩ := bk5 (HM.bx 0 rfl)) | ((with_reducible refine gC 150 rfl ?_); refine pC (some 6) rfl #[.slice A0_0 l0_0.length c0_0] rfl Try.func150 (laws_toOpS.calls k _ _ l0_0 t1400 _ (HM.came HR0_0.out) HC0_0.out A6.out) ?_; rintro e w7 ⟨v1401, rfl, hR⟩; refine ⟨_, rfl, ?_⟩; replace HM := HM.call hR; clear hR; obtain ⟨Xo8, ko8, rfl⟩ := HM.rdR 3 rfl) | ((with_reducible refine gS 7 rfl ?_); refine pS 2 7 0 [.slice Xo8 t1400.length ko8] HM rfl rfl ?_; clear HM; intro w9 HM; obtain ⟨_,_,_,_,_,_,_,_,_,_⟩ := bk5 (HM.bx 0 rfl)) | ((with_reducible refine gS 10 rfl ?_); refine pS 2 10 1 [.int .i64 a0_1] HM rfl rfl ?_; clear HM; intro w11 HM; obtain ⟨_,_,_,_,_,_,_,_,_,_⟩ := bk5 (HM.bx 0 rfl)) | ((with_reducible refine gS 13 rfl ?_); refine pS 2 13 2 [.int .i64 a0_2] HM rfl rfl ?_; clear HM; intro w13 HM; obtain ⟨_,_,_,_,_,_,_,_,_,_⟩ := bk5 (HM.bx 0 rfl)) | ((with_reducible refine gS 16 rfl ?_); refine pS 2 16 3 [.int .i64 a0_3] HM rfl rfl ?_; clear HM; intro w15 HM; obtain ⟨_,_,_,_,_,_,_,_,_,_⟩ := bk5 (HM.bx 0 rfl)) | ((with_reducible refine gC 151 rfl ?_); refine pC (some 19) rfl #[.slice A0_4 l0_4.length c0_4] rfl Try.func151 (laws_toReplyS.calls k _ _ l0_4 t1403 _ (HM.came HR0_4.out) HC0_4.out A17.out) ?_; rintro e w18 ⟨v1404, rfl, hR⟩; refine ⟨_, rfl, ?_⟩; replace HM := HM.call hR; clear hR; obtain ⟨Xo19, ko19, rfl⟩ := HM.rdR 4 rfl) | ((with_reducible refine gS 20 rfl ?_); refine pS 2 20 4 [.slice Xo19 t1403.length ko19] HM rfl rfl ?_; clear HM; intro w20 HM; obtain ⟨_,_,_,_,_,_,_,_,_,_⟩ := bk5 (HM.bx 2 rfl)) | ((with_reducible refine gS 2 rfl ?_); refine pS 1 2 0 [.slice Xo8 t1400.length ko8, .int .i64 a0_1, .int .i64 a0_2, .int .i64 a0_3, .slice Xo19 t1403.length ko19] HM rfl rfl ?_; clear HM; intro w22 HM))
 refine bodyPost_ret (results_cell_row rfl _ _ gb1398 135 #[.slice Xo8 t1400.length ko8, .int .i64 a0_1, .int .i64 a0_2, .int .i64 a0_3, .slice Xo19 t1403.length ko19] (0, 0) _ rfl (HM.bx 1 rfl) Try.underlying135 rfl (by kernel_rfl)) rfl ?_
 exact ⟨_, _, ER, (MD HM).pick [3, 4]⟩
def laws_toUserS.l0 : Nat → List (S155) → List (S135) → Int → Option ((List (S135)))
 | 0, _, _, _ => none
 | k + 1, x0, x3, x4 => if x4 < (x0.length : Int) then (if 0 ≤ x4 then ((laws_toUser.f k ((rd_T155 x0 x4).f0) ((rd_T155 x0 x4).f1) ((rd_T155 x0 x4).f2) ((rd_T155 x0 x4).f3) ((rd_T155 x0 x4).f4)).bind fun bt1410 => (if x4 < (x3.length : Int) then (laws_toUserS.l0 k x0 (x3.set (x4 : Int).toNat (⟨bt1410.1, bt1410.2.1, bt1410.2.2.1, bt1410.2.2.2.1, bt1410.2.2.2.2⟩ : S135)) (wrap64 (x4 + 1))) else (none))) else (none)) else (some x3)
def laws_toUserS.f (k : Nat) (l0 : List (S155)) : Option ((List (S135))) := if 0 ≤ (l0.length : Int) then (if ((l0.length : Int) : Int).toNat ≤ 3909374676536 then (laws_toUserS.l0 k l0 (List.replicate ((l0.length : Int) : Int).toNat z135) 0) else (none)) else (none)
theorem laws_toUserS.calls (k : Nat) (A0 : Option Addr) (c0 : Nat) (l0 : List (S155)) (r : List (S135)) (w : World) (hr0 : Kd.C k155 w A0 l0.length l0) (hc0 : l0.length ≤ c0) (h : laws_toUserS.f k l0 = some r) :
  Calls Try.prog 44 #[.slice A0 l0.length c0] w fun e w' => ∃ v0_ : Value, e = .returned (v0_) ∧ Mem w [] w' [rr x135 135 v0_ r] := by
 have hu155 := Try.underlying155
 have hu135 := Try.underlying135
 have HR0 := Aside0.mk hr0
 have HC0 := Aside0.mk hc0
 clear hr0 hc0
 have HM := Mem.nil w
 have H := h
 clear h
 unfold laws_toUserS.f at H
 go_enter Try.func44, Try.ntmps44
 replace H := GD H; obtain ⟨c2, H⟩ := H
 have c2b0 := eq_true c2
 have c2b1 : decide (0 ≤ (l0.length : Int)) = true := decide_eq_true c2
 clear c2
 replace H := GD H; obtain ⟨c3, H⟩ := H
 have c3b0 := eq_true c3
 have c3b1 : decide (((l0.length : Int) : Int).toNat ≤ 3909374676536) = true := decide_eq_true c3
 clear c3
 have H' := Aside0.mk H
 clear H
 go_wp2_with (first | ((with_reducible refine gN 7 rfl ?_); refine pM 7 (rawK 5) 135 79 _ _ (l0.length : Int) (.agg #[(.slice none 0 0), (.int .i64 0), (.int .i64 0), (.int .i64 0), (.slice none 0 0)]) 72 (x135.cells z135 [.slice none 0 0, .slice none 0 0]) HM rfl Try.underlying79 info135 (of_decide_eq_true AS) (Nat.le_trans (Nat.mul_le_mul_right _ (of_decide_eq_true AS : (l0.length : Int).toNat ≤ 3909374676536)) (by omega)) (hzero := ⟨rfl, rfl, rfl⟩) ?_; clear HM; intro v1407 w4 HM; replace HM := nzM (HM.rrZero [] [0] z135 [.slice none 0 0, .slice none 0 0] ((l0.length : Int) : Int).toNat (by kernel_rfl) rfl x135_zero)))
 go_loopg [4] k (fun kq v4 w' => ∃ (x3_1 : List (S135)) (x4_1 : Int), v4 = .int .i64 x4_1 ∧ Aside0 (laws_toUserS.l0 kq l0 x3_1 x4_1 = some r) ∧ Aside0 (kq ≤ k) ∧ Mem w [] w' [rr x135 135 v1407 x3_1])
 case atStart => exact ⟨((List.replicate ((l0.length : Int) : Int).toNat z135)), (0), RS, H', ⟨Nat.le_refl _⟩, (MD HM).pick [0]⟩
 case round =>
  clear H' HM
  obtain ⟨x3_1, x4_1, rfl, HA, HK1, HM⟩ := hrel
  cases gk with
  | zero => exact absurd HA.out (by simp [laws_toUserS.l0])
  | succ k1 =>
   have H := HA.out
   clear HA
   simp only [laws_toUserS.l0] at H
   go_upto_if 11 with (fail)
   replace H := IT H; rcases H with ⟨c5, H⟩ | ⟨c5, H⟩
   ·have c5b0 := decide_eq_true c5
    clear c5
    first|rw [c5b0]|(simp only [i64_w, i32_w]; rw [c5b0])|skip
    replace H := GD H; obtain ⟨c6, H⟩ := H
    have c6b0 := decide_eq_true c6
    clear c6
    replace H := BN H; obtain ⟨⟨t1410, t1413, t1414, t1415, t1416⟩, A7, H⟩ := H
    replace H := GD H; obtain ⟨c9, H⟩ := H
    have c9b0 : decide (x4_1 < (x3_1.length : Int)) = true := decide_eq_true c9
    clear c9
    have H' := Aside0.mk H
    clear H
    have p1409 : 0 ≤ (x4_1 : Int) := of_decide_eq_true AS
    have q1409 : (x4_1 : Int) < (l0.length : Int) := of_decide_eq_true AS
    obtain ⟨ad1409, A1409_0, c1409_0, A1409_4, c1409_4, e1409, hw1409_0, hw1409_1, hw1409_2, hw1409_3, hw1409_4, l1409_0, g1409_0, l1409_4, g1409_4⟩ := at_T155 HR0.out x4_1 p1409 q1409
    cases e1409
    have hx1409_0 := HM.cell hw1409_0
    have hx1409_1 := HM.cell hw1409_1
    have hx1409_2 := HM.cell hw1409_2
    have hx1409_3 := HM.cell hw1409_3
    have hx1409_4 := HM.cell hw1409_4
    replace p1409 := eq_true p1409
    replace q1409 := eq_true q1409
    go_wp2_with (first | ((with_reducible refine gC 98 rfl ?_); refine pC (some 20) rfl #[.agg #[.slice A1409_0 ((rd_T155 l0 x4_1).f0).length c1409_0, .int .i64 ((rd_T155 l0 x4_1).f1), .int .i64 ((rd_T155 l0 x4_1).f2), .int .i64 ((rd_T155 l0 x4_1).f3), .slice A1409_4 ((rd_T155 l0 x4_1).f4).length c1409_4]] rfl Try.func98 (laws_toUser.calls k1 _ _ ((rd_T155 l0 x4_1).f0) ((rd_T155 l0 x4_1).f1) ((rd_T155 l0 x4_1).f2) ((rd_T155 l0 x4_1).f3) _ _ ((rd_T155 l0 x4_1).f4) t1410 t1413 t1414 t1415 t1416 _ (HM.came g1409_0) l1409_0 (HM.came g1409_4) l1409_4 A7.out) ?_; rintro e w8 ⟨v1411, v1417, rfl, hR⟩; refine ⟨_, rfl, ?_⟩; replace HM := HM.call hR; clear hR; obtain ⟨Xo11, ko11, rfl⟩ := HM.rdRR 0 rfl; have p10 : 0 ≤ (x4_1 : Int) := of_decide_eq_true AS; have q10 : (x4_1 : Int) < ((x3_1.length : Int) : Int) := of_decide_eq_true AS; obtain ⟨go10, ef10⟩ := HM.formRR 0 rfl (by have h_ := (HM.CRR 0 rfl).1; omega); subst ef10; clear p10 q10; have p10 : 0 ≤ (x4_1 : Int) := of_decide_eq_true AS; have q10 : (x4_1 : Int) < (x3_1.length : Int) := of_decide_eq_true AS; obtain ⟨ad10, A10_0, c10_0, A10_4, c10_4, e10, hx10_0, hx10_1, hx10_2, hx10_3, hx10_4, l10_0, g10_0, l10_4, g10_4⟩ := at_T135 (HM.CRR 0 rfl).2.2 x4_1 p10 q10; obtain rfl := Option.some.inj e10; (first | simp only [add_plain] at hx10_0 | simp only [add_at] at hx10_0 | simp only [Addr.add, Nat.zero_add] at hx10_0 | skip); (first | simp only [add_plain] at hx10_1 | simp only [add_at] at hx10_1 | simp only [Addr.add, Nat.zero_add] at hx10_1 | skip); (first | simp only [add_plain] at hx10_2 | simp only [add_at] at hx10_2 | simp only [Addr.add, Nat.zero_add] at hx10_2 | skip); (first | simp only [add_plain] at hx10_3 | simp only [add_at] at hx10_3 | simp only [Addr.add, Nat.zero_add] at hx10_3 | skip); (first | simp only [add_plain] at hx10_4 | simp only [add_at] at hx10_4 | simp only [Addr.add, Nat.zero_add] at hx10_4 | skip); replace p10 := eq_true p10; replace q10 := eq_true q10; obtain ⟨Xo13, ko13, rfl⟩ := HM.rdR 1 rfl; replace HM := HM.toQ 1 rfl; obtain ⟨Xo14, ko14, rfl⟩ := HM.rdR 2 rfl; replace HM := HM.toQ 2 rfl) | ((with_reducible refine gS 21 rfl ?_); refine pPW [] [0, 1, 2] 21 (x4_1 : Int) x135 135 x3_1 (⟨t1410, t1413, t1414, t1415, t1416⟩ : S135) [.slice Xo13 t1410.length ko13, .slice Xo14 t1416.length ko14] HM rfl (by kernel_rfl) rfl (of_decide_eq_true AS) (by have h_ : (x4_1 : Int) < ((x3_1.length : Int) : Int) := of_decide_eq_true AS; have e_ := (HM.CRR 0 rfl).1; omega) ?_; clear HM; intro w12 HM; replace HM := nzM HM))
    go_roundg k1
    case measure => have := HK1.out; omega
    case rel => exact ⟨((x3_1.set (x4_1 : Int).toNat (⟨t1410, t1413, t1414, t1415, t1416⟩ : S135))), (wrap64 (x4_1 + 1)), RS, H', ⟨by have := HK1.out; omega⟩, (MD HM).pick [0]⟩
   ·have c5b0 : decide (x4_1 < (l0.length : Int)) = false := decide_eq_false c5
    clear c5
    first|rw [c5b0]|(simp only [i64_w, i32_w]; rw [c5b0])|skip
    obtain rfl := Option.some.inj H
    go_wp2
    go_ret
    exact ⟨_, ER, (MD HM).pick [0]⟩
def laws_toItem.f (a0_0 : ByteArray) (a0_1 : ByteArray) (a0_2 : Int) : Option (ByteArray × ByteArray × Int) := some (a0_0, a0_1, a0_2)
theorem laws_toItem.calls (a0_0 : ByteArray) (a0_1 : ByteArray) (a0_2 : Int) (r1 : ByteArray) (r2 : ByteArray) (r3 : Int) (w : World)  (h : laws_toItem.f a0_0 a0_1 a0_2 = some (r1, r2, r3)) :
  Calls Try.prog 178 #[.agg #[.string a0_0, .string a0_1, .int .i64 a0_2]] w fun e w' => e = .returned (.agg #[.string r1, .string r2, .int .i64 r3]) ∧ Mem w [] w' [] := by
 have hu220 := Try.underlying220
 have hu122 := Try.underlying122
 have HM := Mem.nil w
 have H := h
 clear h
 unfold laws_toItem.f at H
 go_enter Try.func178, Try.ntmps178
 simp only [Option.some.injEq, Prod.mk.injEq] at H
 obtain ⟨rfl, rfl, rfl⟩ := H
 go_wp2_with (first | ((with_reducible refine gN 1 rfl ?_); refine pB 1 220 [.string a0_0, .string a0_1, .int .i64 a0_2] HM rfl ?_; clear HM; intro gb1420 w2 HM) | ((with_reducible refine gN 2 rfl ?_); refine pB 2 122 [.string (⟨#[]⟩ : ByteArray), .string (⟨#[]⟩ : ByteArray), .int .i64 0] HM rfl ?_; clear HM; intro gb1421 w3 HM) | ((with_reducible refine gN 3 rfl ?_); refine pB 3 122 [.string (⟨#[]⟩ : ByteArray), .string (⟨#[]⟩ : ByteArray), .int .i64 0] HM rfl ?_; clear HM; intro gb1422 w4 HM; obtain ⟨_,_,_,_,_,_⟩ := bk3 (HM.bx 0 rfl)) | ((with_reducible refine gS 6 rfl ?_); refine pS 2 6 0 [.string a0_0] HM rfl rfl ?_; clear HM; intro w6 HM; obtain ⟨_,_,_,_,_,_⟩ := bk3 (HM.bx 0 rfl)) | ((with_reducible refine gS 9 rfl ?_); refine pS 2 9 1 [.string a0_1] HM rfl rfl ?_; clear HM; intro w8 HM; obtain ⟨_,_,_,_,_,_⟩ := bk3 (HM.bx 0 rfl)) | ((with_reducible refine gS 12 rfl ?_); refine pS 2 12 2 [.int .i64 a0_2] HM rfl rfl ?_; clear HM; intro w10 HM; obtain ⟨_,_,_,_,_,_⟩ := bk3 (HM.bx 2 rfl)) | ((with_reducible refine gS 2 rfl ?_); refine pS 1 2 0 [.string a0_0, .string a0_1, .int .i64 a0_2] HM rfl rfl ?_; clear HM; intro w12 HM))
 refine bodyPost_ret (results_cell_row rfl _ _ gb1421 122 #[.string a0_0, .string a0_1, .int .i64 a0_2] (0, 0) _ rfl (HM.bx 1 rfl) Try.underlying122 rfl (by kernel_rfl)) rfl ?_
 exact ⟨ER, (MD HM).pick []⟩
def laws_toItemS.l0 : Nat → List (S220) → List (S122) → Int → Option ((List (S122)))
 | 0, _, _, _ => none
 | k + 1, x0, x3, x4 => if x4 < (x0.length : Int) then (if 0 ≤ x4 then ((laws_toItem.f ((rd_T220 x0 x4).f0) ((rd_T220 x0 x4).f1) ((rd_T220 x0 x4).f2)).bind fun bt1427 => (if x4 < (x3.length : Int) then (laws_toItemS.l0 k x0 (x3.set (x4 : Int).toNat (⟨bt1427.1, bt1427.2.1, bt1427.2.2⟩ : S122)) (wrap64 (x4 + 1))) else (none))) else (none)) else (some x3)
def laws_toItemS.f (k : Nat) (l0 : List (S220)) : Option ((List (S122))) := if 0 ≤ (l0.length : Int) then (if ((l0.length : Int) : Int).toNat ≤ 7036874417766 then (laws_toItemS.l0 k l0 (List.replicate ((l0.length : Int) : Int).toNat z122) 0) else (none)) else (none)
theorem laws_toItemS.calls (k : Nat) (A0 : Option Addr) (c0 : Nat) (l0 : List (S220)) (r : List (S122)) (w : World) (hr0 : Kd.C k220 w A0 l0.length l0) (hc0 : l0.length ≤ c0) (h : laws_toItemS.f k l0 = some r) :
  Calls Try.prog 134 #[.slice A0 l0.length c0] w fun e w' => ∃ v0_ : Value, e = .returned (v0_) ∧ Mem w [] w' [rowR k122 122 v0_ r] := by
 have hu220 := Try.underlying220
 have hu122 := Try.underlying122
 have HR0 := Aside0.mk hr0
 have HC0 := Aside0.mk hc0
 clear hr0 hc0
 have HM := Mem.nil w
 have H := h
 clear h
 unfold laws_toItemS.f at H
 go_enter Try.func134, Try.ntmps134
 replace H := GD H; obtain ⟨c2, H⟩ := H
 have c2b0 := eq_true c2
 have c2b1 : decide (0 ≤ (l0.length : Int)) = true := decide_eq_true c2
 clear c2
 replace H := GD H; obtain ⟨c3, H⟩ := H
 have c3b0 := eq_true c3
 have c3b1 : decide (((l0.length : Int) : Int).toNat ≤ 7036874417766) = true := decide_eq_true c3
 clear c3
 have H' := Aside0.mk H
 clear H
 go_wp2_with (first | ((with_reducible refine gN 7 rfl ?_); refine pM 7 k122 122 29 _ _ (l0.length : Int) (.agg #[(.string ⟨#[]⟩), (.string ⟨#[]⟩), (.int .i64 0)]) 40 z122 HM rfl Try.underlying29 info122 (of_decide_eq_true AS) (Nat.le_trans (Nat.mul_le_mul_right _ (of_decide_eq_true AS : (l0.length : Int).toNat ≤ 7036874417766)) (by omega)) (hzero := (k122_mkM _ _ _ z122)) ?_; clear HM; intro v1424 w4 HM))
 go_loopg [4] k (fun kq v4 w' => ∃ (x3_1 : List (S122)) (x4_1 : Int), v4 = .int .i64 x4_1 ∧ Aside0 (laws_toItemS.l0 kq l0 x3_1 x4_1 = some r) ∧ Aside0 (kq ≤ k) ∧ Mem w [] w' [rowR k122 122 v1424 x3_1])
 case atStart => exact ⟨((List.replicate ((l0.length : Int) : Int).toNat z122)), (0), RS, H', ⟨Nat.le_refl _⟩, (MD HM).pick [0]⟩
 case round =>
  clear H' HM
  obtain ⟨x3_1, x4_1, rfl, HA, HK1, HM⟩ := hrel
  cases gk with
  | zero => exact absurd HA.out (by simp [laws_toItemS.l0])
  | succ k1 =>
   have H := HA.out
   clear HA
   simp only [laws_toItemS.l0] at H
   go_upto_if 11 with (fail)
   replace H := IT H; rcases H with ⟨c5, H⟩ | ⟨c5, H⟩
   ·have c5b0 := decide_eq_true c5
    clear c5
    first|rw [c5b0]|(simp only [i64_w, i32_w]; rw [c5b0])|skip
    replace H := GD H; obtain ⟨c6, H⟩ := H
    have c6b0 := decide_eq_true c6
    clear c6
    replace H := BN H; obtain ⟨⟨t1427, t1428, t1429⟩, A7, H⟩ := H
    replace H := GD H; obtain ⟨c9, H⟩ := H
    have c9b0 : decide (x4_1 < (x3_1.length : Int)) = true := decide_eq_true c9
    clear c9
    have H' := Aside0.mk H
    clear H
    have p1426 : 0 ≤ (x4_1 : Int) := of_decide_eq_true AS
    have q1426 : (x4_1 : Int) < (l0.length : Int) := of_decide_eq_true AS
    obtain ⟨ad1426, e1426, hx1426_0, hx1426_1, hx1426_2⟩ := at_T220 (HM.came HR0.out) x4_1 p1426 q1426
    cases e1426
    replace p1426 := eq_true p1426
    replace q1426 := eq_true q1426
    go_wp2_with (first | ((with_reducible refine gC 178 rfl ?_); refine pC (some 20) rfl #[.agg #[.string ((rd_T220 l0 x4_1).f0), .string ((rd_T220 l0 x4_1).f1), .int .i64 ((rd_T220 l0 x4_1).f2)]] rfl Try.func178 (laws_toItem.calls ((rd_T220 l0 x4_1).f0) ((rd_T220 l0 x4_1).f1) ((rd_T220 l0 x4_1).f2) t1427 t1428 t1429 _ A7.out) ?_; rintro e w8 ⟨rfl, hR⟩; refine ⟨_, rfl, ?_⟩; replace HM := HM.call hR; clear hR; obtain ⟨Xo11, ko11, rfl⟩ := HM.rdR 0 rfl; have p10 : 0 ≤ (x4_1 : Int) := of_decide_eq_true AS; have q10 : (x4_1 : Int) < ((x3_1.length : Int) : Int) := of_decide_eq_true AS; obtain ⟨go10, ef10⟩ := HM.form 0 rfl (by have h_ := (HM.CR 0 rfl).1; omega); subst ef10; obtain ⟨hx10_0, hx10_1, hx10_2, hf10_0, hf10_1, hf10_2⟩ := HM.el3 0 rfl z122 (x4_1 : Int) p10 (by have h_ := (HM.CR 0 rfl).1; omega) (.string ((rd_T122 x3_1 x4_1).f0)) (.string ((rd_T122 x3_1 x4_1).f1)) (.int .i64 ((rd_T122 x3_1 x4_1).f2)) (fun _ _ h => k122_openM h); replace p10 := eq_true p10; replace q10 := eq_true q10) | ((with_reducible refine gS 21 rfl ?_); refine pPR 0 21 (x4_1 : Int) 0 [.string t1427, .string t1428, .int .i64 t1429] k122 122 x3_1 (⟨t1427, t1428, t1429⟩ : S122) z122 [.string ((rd_T122 x3_1 x4_1).f0), .string ((rd_T122 x3_1 x4_1).f1), .int .i64 ((rd_T122 x3_1 x4_1).f2)] HM rfl rfl (of_decide_eq_true AS) (by have h_ : (x4_1 : Int) < ((x3_1.length : Int) : Int) := of_decide_eq_true AS; have e_ := (HM.CR 0 rfl).1; omega) (fun _ _ h => k122_openM h) (k122_mkM _ _ _ (⟨t1427, t1428, t1429⟩ : S122)) ?_; clear HM; intro w12 HM))
    go_roundg k1
    case measure => have := HK1.out; omega
    case rel => exact ⟨((x3_1.set (x4_1 : Int).toNat (⟨t1427, t1428, t1429⟩ : S122))), (wrap64 (x4_1 + 1)), RS, H', ⟨by have := HK1.out; omega⟩, (MD HM).pick [0]⟩
   ·have c5b0 : decide (x4_1 < (l0.length : Int)) = false := decide_eq_false c5
    clear c5
    first|rw [c5b0]|(simp only [i64_w, i32_w]; rw [c5b0])|skip
    obtain rfl := Option.some.inj H
    go_wp2
    go_ret
    exact ⟨_, ER, (MD HM).pick [0]⟩
def laws_toIntS.l0 : Nat → List Int → List Int → Int → Option (List Int)
 | 0, _, _, _ => none
 | k + 1, x0, x3, x4 => if x4 < (x0.length : Int) then (if 0 ≤ x4 then (if x4 < (x3.length : Int) then (laws_toIntS.l0 k x0 (x3.set (x4 : Int).toNat (rd x0 x4)) (wrap64 (x4 + 1))) else (none)) else (none)) else (some x3)
def laws_toIntS.f (k : Nat) (l0 : List Int) : Option (List Int) := if 0 ≤ (l0.length : Int) then (if ((l0.length : Int) : Int).toNat ≤ 35184372088832 then (laws_toIntS.l0 k l0 (List.replicate ((l0.length : Int) : Int).toNat 0) 0) else (none)) else (none)
theorem laws_toIntS.calls (k : Nat) (A0 : Option Addr) (c0 : Nat) (l0 : List Int) (r : List Int) (w : World) (hr0 : Kd.C (Kd.int .i64) w A0 l0.length l0) (hc0 : l0.length ≤ c0) (h : laws_toIntS.f k l0 = some r) :
  Calls Try.prog 135 #[.slice A0 l0.length c0] w fun e w' => ∃ v0_ : Value, e = .returned (v0_) ∧ Mem w [] w' [rowR (Kd.int .i64) 3 v0_ r] := by
 have HR0 := Aside0.mk hr0
 have HC0 := Aside0.mk hc0
 clear hr0 hc0
 have HM := Mem.nil w
 have H := h
 clear h
 unfold laws_toIntS.f at H
 go_enter Try.func135, Try.ntmps135
 replace H := GD H; obtain ⟨c2, H⟩ := H
 have c2b0 := eq_true c2
 have c2b1 : decide (0 ≤ (l0.length : Int)) = true := decide_eq_true c2
 clear c2
 replace H := GD H; obtain ⟨c3, H⟩ := H
 have c3b0 := eq_true c3
 have c3b1 : decide (((l0.length : Int) : Int).toNat ≤ 35184372088832) = true := decide_eq_true c3
 clear c3
 have H' := Aside0.mk H
 clear H
 go_wp2_with (first | ((with_reducible refine gN 7 rfl ?_); refine pM 7 (Kd.int .i64) 3 30 _ _ (l0.length : Int) (.int .i64 0) 8 0 HM rfl Try.underlying30 info3 (of_decide_eq_true AS) (Nat.le_trans (Nat.mul_le_mul_right _ (of_decide_eq_true AS : (l0.length : Int).toNat ≤ 35184372088832)) (by omega)) (hzero := rfl) ?_; clear HM; intro v1432 w4 HM))
 go_loopg [4] k (fun kq v4 w' => ∃ (x3_1 : List Int) (x4_1 : Int), v4 = .int .i64 x4_1 ∧ Aside0 (laws_toIntS.l0 kq l0 x3_1 x4_1 = some r) ∧ Aside0 (kq ≤ k) ∧ Mem w [] w' [rowR (Kd.int .i64) 3 v1432 x3_1])
 case atStart => exact ⟨((List.replicate ((l0.length : Int) : Int).toNat 0)), (0), RS, H', ⟨Nat.le_refl _⟩, (MD HM).pick [0]⟩
 case round =>
  clear H' HM
  obtain ⟨x3_1, x4_1, rfl, HA, HK1, HM⟩ := hrel
  cases gk with
  | zero => exact absurd HA.out (by simp [laws_toIntS.l0])
  | succ k1 =>
   have H := HA.out
   clear HA
   simp only [laws_toIntS.l0] at H
   go_upto_if 11 with (fail)
   replace H := IT H; rcases H with ⟨c5, H⟩ | ⟨c5, H⟩
   ·have c5b0 := decide_eq_true c5
    clear c5
    first|rw [c5b0]|(simp only [i64_w, i32_w]; rw [c5b0])|skip
    replace H := GD H; obtain ⟨c6, H⟩ := H
    have c6b0 := decide_eq_true c6
    clear c6
    replace H := GD H; obtain ⟨c7, H⟩ := H
    have c7b0 := decide_eq_true c7
    clear c7
    have H' := Aside0.mk H
    clear H
    have p1434 : 0 ≤ (x4_1 : Int) := of_decide_eq_true AS
    have q1434 : (x4_1 : Int) < (l0.length : Int) := of_decide_eq_true AS
    obtain ⟨ad1434, e1434, hx1434_0⟩ := Kd.at_int (HM.came HR0.out) x4_1 p1434 q1434
    cases e1434
    replace p1434 := eq_true p1434
    replace q1434 := eq_true q1434
    obtain ⟨Xo9, ko9, rfl⟩ := HM.rdR 0 rfl
    have p8 : 0 ≤ (x4_1 : Int) := of_decide_eq_true AS
    have q8 : (x4_1 : Int) < ((x3_1.length : Int) : Int) := of_decide_eq_true AS
    obtain ⟨go8, ef8⟩ := HM.form 0 rfl (by have h_ := (HM.CR 0 rfl).1; omega)
    subst ef8
    obtain ⟨hcc8, hfr8⟩ := HM.el 0 rfl 0 (x4_1 : Int) p8 (by have h_ := (HM.CR 0 rfl).1; omega) [.int .i64 (rd x3_1 x4_1)] (fun _ _ h => h)
    have hx8_0 : wr.cell? ⟨go8, (x4_1 : Int).toNat, none⟩ = some (.int .i64 (rd x3_1 x4_1)) := (by have h_ := hcc8 0 _ rfl; first | exact h_ | (simp only [show ((Kd.int .i64)).sz = 1 from rfl, Nat.mul_one, Nat.add_zero] at h_; exact h_) | simpa using h_)
    have hf8_0 : wr.frozen? ⟨go8, (x4_1 : Int).toNat, none⟩ = false := (by have h_ := hfr8 0; first | exact h_ | (simp only [show ((Kd.int .i64)).sz = 1 from rfl, Nat.mul_one, Nat.add_zero] at h_; exact h_) | simpa using h_)
    clear hcc8 hfr8
    replace p8 := eq_true p8
    replace q8 := eq_true q8
    go_wp2_with (first | ((with_reducible refine gS 20 rfl ?_); refine pPR 0 20 (x4_1 : Int) 0 [.int .i64 (rd l0 x4_1)] (Kd.int .i64) 3 x3_1 (rd l0 x4_1) 0 [.int .i64 (rd x3_1 x4_1)] HM rfl rfl (of_decide_eq_true AS) (by have h_ : (x4_1 : Int) < ((x3_1.length : Int) : Int) := of_decide_eq_true AS; have e_ := (HM.CR 0 rfl).1; omega) (fun _ _ h => h) rfl ?_; clear HM; intro w10 HM))
    go_roundg k1
    case measure => have := HK1.out; omega
    case rel => exact ⟨((x3_1.set (x4_1 : Int).toNat (rd l0 x4_1))), (wrap64 (x4_1 + 1)), RS, H', ⟨by have := HK1.out; omega⟩, (MD HM).pick [0]⟩
   ·have c5b0 := decide_eq_false c5
    clear c5
    first|rw [c5b0]|(simp only [i64_w, i32_w]; rw [c5b0])|skip
    obtain rfl := Option.some.inj H
    go_wp2
    go_ret
    exact ⟨_, ER, (MD HM).pick [0]⟩
def laws_toThree.f (k : Nat) (a0_0 : Int) (a0_1 : Int) (l0_2 : List (S220)) (l0_3 : List (S220)) (l0_4 : List Int) : Option (Int × Int × (List (S122)) × (List (S122)) × List Int) := (laws_toItemS.f k l0_2).bind fun t1439 => ((laws_toItemS.f k l0_3).bind fun t1442 => ((laws_toIntS.f k l0_4).bind fun t1445 => (some (a0_0, a0_1, t1439, t1442, t1445))))
theorem laws_toThree.calls (k : Nat) (a0_0 : Int) (a0_1 : Int) (A0_2 : Option Addr) (c0_2 : Nat) (l0_2 : List (S220)) (A0_3 : Option Addr) (c0_3 : Nat) (l0_3 : List (S220)) (A0_4 : Option Addr) (c0_4 : Nat) (l0_4 : List Int) (r1 : Int) (r2 : Int) (r3 : List (S122)) (r4 : List (S122)) (r5 : List Int) (w : World) (hr0_2 : Kd.C k220 w A0_2 l0_2.length l0_2) (hc0_2 : l0_2.length ≤ c0_2) (hr0_3 : Kd.C k220 w A0_3 l0_3.length l0_3) (hc0_3 : l0_3.length ≤ c0_3) (hr0_4 : Kd.C (Kd.int .i64) w A0_4 l0_4.length l0_4) (hc0_4 : l0_4.length ≤ c0_4) (h : laws_toThree.f k a0_0 a0_1 l0_2 l0_3 l0_4 = some (r1, r2, r3, r4, r5)) :
  Calls Try.prog 80 #[.agg #[.int .i64 a0_0, .int .i64 a0_1, .slice A0_2 l0_2.length c0_2, .slice A0_3 l0_3.length c0_3, .slice A0_4 l0_4.length c0_4]] w fun e w' => ∃ v2_ v3_ v4_ : Value, e = .returned (.agg #[.int .i64 r1, .int .i64 r2, v2_, v3_, v4_]) ∧ Mem w [] w' [rowR k122 122 v2_ r3, rowR k122 122 v3_ r4, rowR (Kd.int .i64) 3 v4_ r5] := by
 have hu60 := Try.underlying60
 have hu32 := Try.underlying32
 have HR0_2 := Aside0.mk hr0_2
 have HC0_2 := Aside0.mk hc0_2
 clear hr0_2 hc0_2
 have HR0_3 := Aside0.mk hr0_3
 have HC0_3 := Aside0.mk hc0_3
 clear hr0_3 hc0_3
 have HR0_4 := Aside0.mk hr0_4
 have HC0_4 := Aside0.mk hc0_4
 clear hr0_4 hc0_4
 have HM := Mem.nil w
 have H := h
 clear h
 unfold laws_toThree.f at H
 go_enter Try.func80, Try.ntmps80
 replace H := BN H; obtain ⟨t1439, A10, H⟩ := H
 replace H := BN H; obtain ⟨t1442, A15, H⟩ := H
 replace H := BN H; obtain ⟨t1445, A20, H⟩ := H
 simp only [Option.some.injEq, Prod.mk.injEq] at H
 obtain ⟨rfl, rfl, rfl, rfl, rfl⟩ := H
 go_wp2_with (first | ((with_reducible refine gN 1 rfl ?_); refine pB 1 60 [.int .i64 a0_0, .int .i64 a0_1, .slice A0_2 l0_2.length c0_2, .slice A0_3 l0_3.length c0_3, .slice A0_4 l0_4.length c0_4] HM rfl ?_; clear HM; intro gb1436 w2 HM) | ((with_reducible refine gN 2 rfl ?_); refine pB 2 32 [.int .i64 0, .int .i64 0, .slice none 0 0, .slice none 0 0, .slice none 0 0] HM rfl ?_; clear HM; intro gb1437 w3 HM) | ((with_reducible refine gN 3 rfl ?_); refine pB 3 32 [.int .i64 0, .int .i64 0, .slice none 0 0, .slice none 0 0, .slice none 0 0] HM rfl ?_; clear HM; intro gb1438 w4 HM; obtain ⟨_,_,_,_,_,_,_,_,_,_⟩ := bk5 (HM.bx 0 rfl)) | ((with_reducible refine gS 6 rfl ?_); refine pS 2 6 0 [.int .i64 a0_0] HM rfl rfl ?_; clear HM; intro w6 HM; obtain ⟨_,_,_,_,_,_,_,_,_,_⟩ := bk5 (HM.bx 0 rfl)) | ((with_reducible refine gS 9 rfl ?_); refine pS 2 9 1 [.int .i64 a0_1] HM rfl rfl ?_; clear HM; intro w8 HM; obtain ⟨_,_,_,_,_,_,_,_,_,_⟩ := bk5 (HM.bx 0 rfl)) | ((with_reducible refine gC 134 rfl ?_); refine pC (some 12) rfl #[.slice A0_2 l0_2.length c0_2] rfl Try.func134 (laws_toItemS.calls k _ _ l0_2 t1439 _ (HM.came HR0_2.out) HC0_2.out A10.out) ?_; rintro e w11 ⟨v1440, rfl, hR⟩; refine ⟨_, rfl, ?_⟩; replace HM := HM.call hR; clear hR; obtain ⟨Xo12, ko12, rfl⟩ := HM.rdR 3 rfl) | ((with_reducible refine gS 13 rfl ?_); refine pS 2 13 2 [.slice Xo12 t1439.length ko12] HM rfl rfl ?_; clear HM; intro w13 HM; obtain ⟨_,_,_,_,_,_,_,_,_,_⟩ := bk5 (HM.bx 0 rfl)) | ((with_reducible refine gC 134 rfl ?_); refine pC (some 16) rfl #[.slice A0_3 l0_3.length c0_3] rfl Try.func134 (laws_toItemS.calls k _ _ l0_3 t1442 _ (HM.came HR0_3.out) HC0_3.out A15.out) ?_; rintro e w16 ⟨v1443, rfl, hR⟩; refine ⟨_, rfl, ?_⟩; replace HM := HM.call hR; clear hR; obtain ⟨Xo17, ko17, rfl⟩ := HM.rdR 4 rfl) | ((with_reducible refine gS 17 rfl ?_); refine pS 2 17 3 [.slice Xo17 t1442.length ko17] HM rfl rfl ?_; clear HM; intro w18 HM; obtain ⟨_,_,_,_,_,_,_,_,_,_⟩ := bk5 (HM.bx 0 rfl)) | ((with_reducible refine gC 135 rfl ?_); refine pC (some 20) rfl #[.slice A0_4 l0_4.length c0_4] rfl Try.func135 (laws_toIntS.calls k _ _ l0_4 t1445 _ (HM.came HR0_4.out) HC0_4.out A20.out) ?_; rintro e w21 ⟨v1446, rfl, hR⟩; refine ⟨_, rfl, ?_⟩; replace HM := HM.call hR; clear hR; obtain ⟨Xo22, ko22, rfl⟩ := HM.rdR 5 rfl) | ((with_reducible refine gS 21 rfl ?_); refine pS 2 21 4 [.slice Xo22 t1445.length ko22] HM rfl rfl ?_; clear HM; intro w23 HM; obtain ⟨_,_,_,_,_,_,_,_,_,_⟩ := bk5 (HM.bx 2 rfl)) | ((with_reducible refine gS 2 rfl ?_); refine pS 1 2 0 [.int .i64 a0_0, .int .i64 a0_1, .slice Xo12 t1439.length ko12, .slice Xo17 t1442.length ko17, .slice Xo22 t1445.length ko22] HM rfl rfl ?_; clear HM; intro w25 HM))
 refine bodyPost_ret (results_cell_row rfl _ _ gb1437 32 #[.int .i64 a0_0, .int .i64 a0_1, .slice Xo12 t1439.length ko12, .slice Xo17 t1442.length ko17, .slice Xo22 t1445.length ko22] (0, 0) _ rfl (HM.bx 1 rfl) Try.underlying32 rfl (by kernel_rfl)) rfl ?_
 exact ⟨_, _, _, ER, (MD HM).pick [3, 4, 5]⟩
def laws_toGone.f (a0_0 : Int) (a0_1 : Int) : Option (Int × Int) := some (a0_0, a0_1)
theorem laws_toGone.calls (a0_0 : Int) (a0_1 : Int) (r1 : Int) (r2 : Int) (w : World)  (h : laws_toGone.f a0_0 a0_1 = some (r1, r2)) :
  Calls Try.prog 204 #[.agg #[.int .i64 a0_0, .int .i64 a0_1]] w fun e w' => e = .returned (.agg #[.int .i64 r1, .int .i64 r2]) ∧ Mem w [] w' [] := by
 have hu244 := Try.underlying244
 have hu242 := Try.underlying242
 have HM := Mem.nil w
 have H := h
 clear h
 unfold laws_toGone.f at H
 go_enter Try.func204, Try.ntmps204
 simp only [Option.some.injEq, Prod.mk.injEq] at H
 obtain ⟨rfl, rfl⟩ := H
 go_wp2_with (first | ((with_reducible refine gN 1 rfl ?_); refine pB 1 244 [.int .i64 a0_0, .int .i64 a0_1] HM rfl ?_; clear HM; intro gb1448 w2 HM) | ((with_reducible refine gN 2 rfl ?_); refine pB 2 242 [.int .i64 0, .int .i64 0] HM rfl ?_; clear HM; intro gb1449 w3 HM) | ((with_reducible refine gN 3 rfl ?_); refine pB 3 242 [.int .i64 0, .int .i64 0] HM rfl ?_; clear HM; intro gb1450 w4 HM; obtain ⟨_,_,_,_⟩ := bk2 (HM.bx 0 rfl)) | ((with_reducible refine gS 6 rfl ?_); refine pS 2 6 0 [.int .i64 a0_0] HM rfl rfl ?_; clear HM; intro w6 HM; obtain ⟨_,_,_,_⟩ := bk2 (HM.bx 0 rfl)) | ((with_reducible refine gS 9 rfl ?_); refine pS 2 9 1 [.int .i64 a0_1] HM rfl rfl ?_; clear HM; intro w8 HM; obtain ⟨_,_,_,_⟩ := bk2 (HM.bx 2 rfl)) | ((with_reducible refine gS 2 rfl ?_); refine pS 1 2 0 [.int .i64 a0_0, .int .i64 a0_1] HM rfl rfl ?_; clear HM; intro w10 HM))
 refine bodyPost_ret (results_cell_row rfl _ _ gb1449 242 #[.int .i64 a0_0, .int .i64 a0_1] (0, 0) _ rfl (HM.bx 1 rfl) Try.underlying242 rfl (by kernel_rfl)) rfl ?_
 exact ⟨ER, (MD HM).pick []⟩
def laws_toGoneS.l0 : Nat → List (S244) → List (S242) → Int → Option ((List (S242)))
 | 0, _, _, _ => none
 | k + 1, x0, x3, x4 => if x4 < (x0.length : Int) then (if 0 ≤ x4 then ((laws_toGone.f ((rd_T244 x0 x4).f0) ((rd_T244 x0 x4).f1)).bind fun bt1455 => (if x4 < (x3.length : Int) then (laws_toGoneS.l0 k x0 (x3.set (x4 : Int).toNat (⟨bt1455.1, bt1455.2⟩ : S242)) (wrap64 (x4 + 1))) else (none))) else (none)) else (some x3)
def laws_toGoneS.f (k : Nat) (l0 : List (S244)) : Option ((List (S242))) := if 0 ≤ (l0.length : Int) then (if ((l0.length : Int) : Int).toNat ≤ 17592186044416 then (laws_toGoneS.l0 k l0 (List.replicate ((l0.length : Int) : Int).toNat z242) 0) else (none)) else (none)
theorem laws_toGoneS.calls (k : Nat) (A0 : Option Addr) (c0 : Nat) (l0 : List (S244)) (r : List (S242)) (w : World) (hr0 : Kd.C k244 w A0 l0.length l0) (hc0 : l0.length ≤ c0) (h : laws_toGoneS.f k l0 = some r) :
  Calls Try.prog 179 #[.slice A0 l0.length c0] w fun e w' => ∃ v0_ : Value, e = .returned (v0_) ∧ Mem w [] w' [rowR k242 242 v0_ r] := by
 have hu244 := Try.underlying244
 have hu242 := Try.underlying242
 have HR0 := Aside0.mk hr0
 have HC0 := Aside0.mk hc0
 clear hr0 hc0
 have HM := Mem.nil w
 have H := h
 clear h
 unfold laws_toGoneS.f at H
 go_enter Try.func179, Try.ntmps179
 replace H := GD H; obtain ⟨c2, H⟩ := H
 have c2b0 := eq_true c2
 have c2b1 : decide (0 ≤ (l0.length : Int)) = true := decide_eq_true c2
 clear c2
 replace H := GD H; obtain ⟨c3, H⟩ := H
 have c3b0 := eq_true c3
 have c3b1 : decide (((l0.length : Int) : Int).toNat ≤ 17592186044416) = true := decide_eq_true c3
 clear c3
 have H' := Aside0.mk H
 clear H
 go_wp2_with (first | ((with_reducible refine gN 7 rfl ?_); refine pM 7 k242 242 73 _ _ (l0.length : Int) (.agg #[(.int .i64 0), (.int .i64 0)]) 16 z242 HM rfl Try.underlying73 info242 (of_decide_eq_true AS) (Nat.le_trans (Nat.mul_le_mul_right _ (of_decide_eq_true AS : (l0.length : Int).toNat ≤ 17592186044416)) (by omega)) (hzero := (k242_mkM _ _ _ z242)) ?_; clear HM; intro v1452 w4 HM))
 go_loopg [4] k (fun kq v4 w' => ∃ (x3_1 : List (S242)) (x4_1 : Int), v4 = .int .i64 x4_1 ∧ Aside0 (laws_toGoneS.l0 kq l0 x3_1 x4_1 = some r) ∧ Aside0 (kq ≤ k) ∧ Mem w [] w' [rowR k242 242 v1452 x3_1])
 case atStart => exact ⟨((List.replicate ((l0.length : Int) : Int).toNat z242)), (0), RS, H', ⟨Nat.le_refl _⟩, (MD HM).pick [0]⟩
 case round =>
  clear H' HM
  obtain ⟨x3_1, x4_1, rfl, HA, HK1, HM⟩ := hrel
  cases gk with
  | zero => exact absurd HA.out (by simp [laws_toGoneS.l0])
  | succ k1 =>
   have H := HA.out
   clear HA
   simp only [laws_toGoneS.l0] at H
   go_upto_if 11 with (fail)
   replace H := IT H; rcases H with ⟨c5, H⟩ | ⟨c5, H⟩
   ·have c5b0 := decide_eq_true c5
    clear c5
    first|rw [c5b0]|(simp only [i64_w, i32_w]; rw [c5b0])|skip
    replace H := GD H; obtain ⟨c6, H⟩ := H
    have c6b0 := decide_eq_true c6
    clear c6
    replace H := BN H; obtain ⟨⟨t1455, t1456⟩, A7, H⟩ := H
    replace H := GD H; obtain ⟨c9, H⟩ := H
    have c9b0 : decide (x4_1 < (x3_1.length : Int)) = true := decide_eq_true c9
    clear c9
    have H' := Aside0.mk H
    clear H
    have p1454 : 0 ≤ (x4_1 : Int) := of_decide_eq_true AS
    have q1454 : (x4_1 : Int) < (l0.length : Int) := of_decide_eq_true AS
    obtain ⟨ad1454, e1454, hx1454_0, hx1454_1⟩ := at_T244 (HM.came HR0.out) x4_1 p1454 q1454
    cases e1454
    replace p1454 := eq_true p1454
    replace q1454 := eq_true q1454
    go_wp2_with (first | ((with_reducible refine gC 204 rfl ?_); refine pC (some 20) rfl #[.agg #[.int .i64 ((rd_T244 l0 x4_1).f0), .int .i64 ((rd_T244 l0 x4_1).f1)]] rfl Try.func204 (laws_toGone.calls ((rd_T244 l0 x4_1).f0) ((rd_T244 l0 x4_1).f1) t1455 t1456 _ A7.out) ?_; rintro e w8 ⟨rfl, hR⟩; refine ⟨_, rfl, ?_⟩; replace HM := HM.call hR; clear hR; obtain ⟨Xo11, ko11, rfl⟩ := HM.rdR 0 rfl; have p10 : 0 ≤ (x4_1 : Int) := of_decide_eq_true AS; have q10 : (x4_1 : Int) < ((x3_1.length : Int) : Int) := of_decide_eq_true AS; obtain ⟨go10, ef10⟩ := HM.form 0 rfl (by have h_ := (HM.CR 0 rfl).1; omega); subst ef10; obtain ⟨hcc10, hfr10⟩ := HM.el 0 rfl z242 (x4_1 : Int) p10 (by have h_ := (HM.CR 0 rfl).1; omega) [.int .i64 ((rd_T242 x3_1 x4_1).f0), .int .i64 ((rd_T242 x3_1 x4_1).f1)] (fun _ _ h => k242_openM h); have hx10_0 : w8.cell? ⟨go10, (x4_1 : Int).toNat * 2, none⟩ = some (.int .i64 ((rd_T242 x3_1 x4_1).f0)) := (by have h_ := hcc10 0 _ rfl; first | exact h_ | (simp only [show (k242).sz = 2 from rfl, Nat.mul_one, Nat.add_zero] at h_; exact h_) | simpa using h_); have hf10_0 : w8.frozen? ⟨go10, (x4_1 : Int).toNat * 2, none⟩ = false := (by have h_ := hfr10 0; first | exact h_ | (simp only [show (k242).sz = 2 from rfl, Nat.mul_one, Nat.add_zero] at h_; exact h_) | simpa using h_); have hx10_1 : w8.cell? ⟨go10, (x4_1 : Int).toNat * 2 + 1, none⟩ = some (.int .i64 ((rd_T242 x3_1 x4_1).f1)) := (by have h_ := hcc10 1 _ rfl; first | exact h_ | (simp only [show (k242).sz = 2 from rfl, Nat.mul_one, Nat.add_zero] at h_; exact h_) | simpa using h_); have hf10_1 : w8.frozen? ⟨go10, (x4_1 : Int).toNat * 2 + 1, none⟩ = false := (by have h_ := hfr10 1; first | exact h_ | (simp only [show (k242).sz = 2 from rfl, Nat.mul_one, Nat.add_zero] at h_; exact h_) | simpa using h_); clear hcc10 hfr10; replace p10 := eq_true p10; replace q10 := eq_true q10) | ((with_reducible refine gS 21 rfl ?_); refine pPR 0 21 (x4_1 : Int) 0 [.int .i64 t1455, .int .i64 t1456] k242 242 x3_1 (⟨t1455, t1456⟩ : S242) z242 [.int .i64 ((rd_T242 x3_1 x4_1).f0), .int .i64 ((rd_T242 x3_1 x4_1).f1)] HM rfl rfl (of_decide_eq_true AS) (by have h_ : (x4_1 : Int) < ((x3_1.length : Int) : Int) := of_decide_eq_true AS; have e_ := (HM.CR 0 rfl).1; omega) (fun _ _ h => k242_openM h) (k242_mkM _ _ _ (⟨t1455, t1456⟩ : S242)) ?_; clear HM; intro w12 HM))
    go_roundg k1
    case measure => have := HK1.out; omega
    case rel => exact ⟨((x3_1.set (x4_1 : Int).toNat (⟨t1455, t1456⟩ : S242))), (wrap64 (x4_1 + 1)), RS, H', ⟨by have := HK1.out; omega⟩, (MD HM).pick [0]⟩
   ·have c5b0 : decide (x4_1 < (l0.length : Int)) = false := decide_eq_false c5
    clear c5
    first|rw [c5b0]|(simp only [i64_w, i32_w]; rw [c5b0])|skip
    obtain rfl := Option.some.inj H
    go_wp2
    go_ret
    exact ⟨_, ER, (MD HM).pick [0]⟩
def laws_toAges.f (k : Nat) (a0_0 : Int) (l0_1 : List Int) (l0_2 : List (S244)) : Option (Int × List Int × (List (S242))) := (laws_toIntS.f k l0_1).bind fun t1461 => ((laws_toGoneS.f k l0_2).bind fun t1464 => (some (a0_0, t1461, t1464)))
theorem laws_toAges.calls (k : Nat) (a0_0 : Int) (A0_1 : Option Addr) (c0_1 : Nat) (l0_1 : List Int) (A0_2 : Option Addr) (c0_2 : Nat) (l0_2 : List (S244)) (r1 : Int) (r2 : List Int) (r3 : List (S242)) (w : World) (hr0_1 : Kd.C (Kd.int .i64) w A0_1 l0_1.length l0_1) (hc0_1 : l0_1.length ≤ c0_1) (hr0_2 : Kd.C k244 w A0_2 l0_2.length l0_2) (hc0_2 : l0_2.length ≤ c0_2) (h : laws_toAges.f k a0_0 l0_1 l0_2 = some (r1, r2, r3)) :
  Calls Try.prog 136 #[.agg #[.int .i64 a0_0, .slice A0_1 l0_1.length c0_1, .slice A0_2 l0_2.length c0_2]] w fun e w' => ∃ v1_ v2_ : Value, e = .returned (.agg #[.int .i64 r1, v1_, v2_]) ∧ Mem w [] w' [rowR (Kd.int .i64) 3 v1_ r2, rowR k242 242 v2_ r3] := by
 have hu63 := Try.underlying63
 have hu75 := Try.underlying75
 have HR0_1 := Aside0.mk hr0_1
 have HC0_1 := Aside0.mk hc0_1
 clear hr0_1 hc0_1
 have HR0_2 := Aside0.mk hr0_2
 have HC0_2 := Aside0.mk hc0_2
 clear hr0_2 hc0_2
 have HM := Mem.nil w
 have H := h
 clear h
 unfold laws_toAges.f at H
 go_enter Try.func136, Try.ntmps136
 replace H := BN H; obtain ⟨t1461, A8, H⟩ := H
 replace H := BN H; obtain ⟨t1464, A13, H⟩ := H
 simp only [Option.some.injEq, Prod.mk.injEq] at H
 obtain ⟨rfl, rfl, rfl⟩ := H
 go_wp2_with (first | ((with_reducible refine gN 1 rfl ?_); refine pB 1 63 [.int .i64 a0_0, .slice A0_1 l0_1.length c0_1, .slice A0_2 l0_2.length c0_2] HM rfl ?_; clear HM; intro gb1458 w2 HM) | ((with_reducible refine gN 2 rfl ?_); refine pB 2 75 [.int .i64 0, .slice none 0 0, .slice none 0 0] HM rfl ?_; clear HM; intro gb1459 w3 HM) | ((with_reducible refine gN 3 rfl ?_); refine pB 3 75 [.int .i64 0, .slice none 0 0, .slice none 0 0] HM rfl ?_; clear HM; intro gb1460 w4 HM; obtain ⟨_,_,_,_,_,_⟩ := bk3 (HM.bx 0 rfl)) | ((with_reducible refine gS 6 rfl ?_); refine pS 2 6 0 [.int .i64 a0_0] HM rfl rfl ?_; clear HM; intro w6 HM; obtain ⟨_,_,_,_,_,_⟩ := bk3 (HM.bx 0 rfl)) | ((with_reducible refine gC 135 rfl ?_); refine pC (some 9) rfl #[.slice A0_1 l0_1.length c0_1] rfl Try.func135 (laws_toIntS.calls k _ _ l0_1 t1461 _ (HM.came HR0_1.out) HC0_1.out A8.out) ?_; rintro e w9 ⟨v1462, rfl, hR⟩; refine ⟨_, rfl, ?_⟩; replace HM := HM.call hR; clear hR; obtain ⟨Xo10, ko10, rfl⟩ := HM.rdR 3 rfl) | ((with_reducible refine gS 10 rfl ?_); refine pS 2 10 1 [.slice Xo10 t1461.length ko10] HM rfl rfl ?_; clear HM; intro w11 HM; obtain ⟨_,_,_,_,_,_⟩ := bk3 (HM.bx 0 rfl)) | ((with_reducible refine gC 179 rfl ?_); refine pC (some 13) rfl #[.slice A0_2 l0_2.length c0_2] rfl Try.func179 (laws_toGoneS.calls k _ _ l0_2 t1464 _ (HM.came HR0_2.out) HC0_2.out A13.out) ?_; rintro e w14 ⟨v1465, rfl, hR⟩; refine ⟨_, rfl, ?_⟩; replace HM := HM.call hR; clear hR; obtain ⟨Xo15, ko15, rfl⟩ := HM.rdR 4 rfl) | ((with_reducible refine gS 14 rfl ?_); refine pS 2 14 2 [.slice Xo15 t1464.length ko15] HM rfl rfl ?_; clear HM; intro w16 HM; obtain ⟨_,_,_,_,_,_⟩ := bk3 (HM.bx 2 rfl)) | ((with_reducible refine gS 2 rfl ?_); refine pS 1 2 0 [.int .i64 a0_0, .slice Xo10 t1461.length ko10, .slice Xo15 t1464.length ko15] HM rfl rfl ?_; clear HM; intro w18 HM))
 refine bodyPost_ret (results_cell_row rfl _ _ gb1459 75 #[.int .i64 a0_0, .slice Xo10 t1461.length ko10, .slice Xo15 t1464.length ko15] (0, 0) _ rfl (HM.bx 1 rfl) Try.underlying75 rfl (by kernel_rfl)) rfl ?_
 exact ⟨_, _, ER, (MD HM).pick [3, 4]⟩
def laws_toPool.f (k : Nat) (l0_0 : List Int) (a0_1 : Int) (l0_2 : List Int) (l0_3 : List (S244)) (l0_4 : List Int) : Option (List Int × Int × List Int × (List (S242)) × List Int) := (laws_toIntS.f k l0_0).bind fun t1470 => ((laws_toAges.f k a0_1 l0_2 l0_3).bind fun bt1473 => ((laws_toIntS.f k l0_4).bind fun t1480 => (some (t1470, bt1473.1, bt1473.2.1, bt1473.2.2, t1480))))
theorem laws_toPool.calls (k : Nat) (A0_0 : Option Addr) (c0_0 : Nat) (l0_0 : List Int) (a0_1 : Int) (A0_2 : Option Addr) (c0_2 : Nat) (l0_2 : List Int) (A0_3 : Option Addr) (c0_3 : Nat) (l0_3 : List (S244)) (A0_4 : Option Addr) (c0_4 : Nat) (l0_4 : List Int) (r1 : List Int) (r2 : Int) (r3 : List Int) (r4 : List (S242)) (r5 : List Int) (w : World) (hr0_0 : Kd.C (Kd.int .i64) w A0_0 l0_0.length l0_0) (hc0_0 : l0_0.length ≤ c0_0) (hr0_2 : Kd.C (Kd.int .i64) w A0_2 l0_2.length l0_2) (hc0_2 : l0_2.length ≤ c0_2) (hr0_3 : Kd.C k244 w A0_3 l0_3.length l0_3) (hc0_3 : l0_3.length ≤ c0_3) (hr0_4 : Kd.C (Kd.int .i64) w A0_4 l0_4.length l0_4) (hc0_4 : l0_4.length ≤ c0_4) (h : laws_toPool.f k l0_0 a0_1 l0_2 l0_3 l0_4 = some (r1, r2, r3, r4, r5)) :
  Calls Try.prog 81 #[.agg #[.slice A0_0 l0_0.length c0_0, .int .i64 a0_1, .slice A0_2 l0_2.length c0_2, .slice A0_3 l0_3.length c0_3, .slice A0_4 l0_4.length c0_4]] w fun e w' => ∃ v0_ v2_ v3_ v4_ : Value, e = .returned (.agg #[v0_, .int .i64 r2, v2_, v3_, v4_]) ∧ Mem w [] w' [rowR (Kd.int .i64) 3 v0_ r1, rowR (Kd.int .i64) 3 v2_ r3, rowR k242 242 v3_ r4, rowR (Kd.int .i64) 3 v4_ r5] := by
 have hu65 := Try.underlying65
 have hu77 := Try.underlying77
 have hu63 := Try.underlying63
 have hu75 := Try.underlying75
 have HR0_0 := Aside0.mk hr0_0
 have HC0_0 := Aside0.mk hc0_0
 clear hr0_0 hc0_0
 have HR0_2 := Aside0.mk hr0_2
 have HC0_2 := Aside0.mk hc0_2
 clear hr0_2 hc0_2
 have HR0_3 := Aside0.mk hr0_3
 have HC0_3 := Aside0.mk hc0_3
 clear hr0_3 hc0_3
 have HR0_4 := Aside0.mk hr0_4
 have HC0_4 := Aside0.mk hc0_4
 clear hr0_4 hc0_4
 have HM := Mem.nil w
 have H := h
 clear h
 unfold laws_toPool.f at H
 go_enter Try.func81, Try.ntmps81
 replace H := BN H; obtain ⟨t1470, A6, H⟩ := H
 replace H := BN H; obtain ⟨⟨t1473, t1474, t1477⟩, A11, H⟩ := H
 replace H := BN H; obtain ⟨t1480, A17, H⟩ := H
 simp only [Option.some.injEq, Prod.mk.injEq] at H
 obtain ⟨rfl, rfl, rfl, rfl, rfl⟩ := H
 go_wp2_with (first | ((with_reducible refine gN 1 rfl ?_); refine pB 1 65 [.slice A0_0 l0_0.length c0_0, .int .i64 a0_1, .slice A0_2 l0_2.length c0_2, .slice A0_3 l0_3.length c0_3, .slice A0_4 l0_4.length c0_4] HM rfl ?_; clear HM; intro gb1467 w2 HM) | ((with_reducible refine gN 2 rfl ?_); refine pB 2 77 [.slice none 0 0, .int .i64 0, .slice none 0 0, .slice none 0 0, .slice none 0 0] HM rfl ?_; clear HM; intro gb1468 w3 HM) | ((with_reducible refine gN 3 rfl ?_); refine pB 3 77 [.slice none 0 0, .int .i64 0, .slice none 0 0, .slice none 0 0, .slice none 0 0] HM rfl ?_; clear HM; intro gb1469 w4 HM; obtain ⟨_,_,_,_,_,_,_,_,_,_⟩ := bk5 (HM.bx 0 rfl)) | ((with_reducible refine gC 135 rfl ?_); refine pC (some 6) rfl #[.slice A0_0 l0_0.length c0_0] rfl Try.func135 (laws_toIntS.calls k _ _ l0_0 t1470 _ (HM.came HR0_0.out) HC0_0.out A6.out) ?_; rintro e w7 ⟨v1471, rfl, hR⟩; refine ⟨_, rfl, ?_⟩; replace HM := HM.call hR; clear hR; obtain ⟨Xo8, ko8, rfl⟩ := HM.rdR 3 rfl) | ((with_reducible refine gS 7 rfl ?_); refine pS 2 7 0 [.slice Xo8 t1470.length ko8] HM rfl rfl ?_; clear HM; intro w9 HM; obtain ⟨_,_,_,_,_,_,_,_,_,_⟩ := bk5 (HM.bx 0 rfl)) | ((with_reducible refine gC 136 rfl ?_); refine pC (some 10) rfl #[.agg #[.int .i64 a0_1, .slice A0_2 l0_2.length c0_2, .slice A0_3 l0_3.length c0_3]] rfl Try.func136 (laws_toAges.calls k a0_1 _ _ l0_2 _ _ l0_3 t1473 t1474 t1477 _ (HM.came HR0_2.out) HC0_2.out (HM.came HR0_3.out) HC0_3.out A11.out) ?_; rintro e w12 ⟨v1475, v1478, rfl, hR⟩; refine ⟨_, rfl, ?_⟩; replace HM := HM.call hR; clear hR; obtain ⟨Xo13, ko13, rfl⟩ := HM.rdR 4 rfl; obtain ⟨Xo14, ko14, rfl⟩ := HM.rdR 5 rfl) | ((with_reducible refine gS 11 rfl ?_); refine pS 2 11 1 [.int .i64 t1473, .slice Xo13 t1474.length ko13, .slice Xo14 t1477.length ko14] HM rfl rfl ?_; clear HM; intro w15 HM; obtain ⟨_,_,_,_,_,_,_,_,_,_⟩ := bk5 (HM.bx 0 rfl)) | ((with_reducible refine gC 135 rfl ?_); refine pC (some 14) rfl #[.slice A0_4 l0_4.length c0_4] rfl Try.func135 (laws_toIntS.calls k _ _ l0_4 t1480 _ (HM.came HR0_4.out) HC0_4.out A17.out) ?_; rintro e w18 ⟨v1481, rfl, hR⟩; refine ⟨_, rfl, ?_⟩; replace HM := HM.call hR; clear hR; obtain ⟨Xo19, ko19, rfl⟩ := HM.rdR 6 rfl) | ((with_reducible refine gS 15 rfl ?_); refine pS 2 15 4 [.slice Xo19 t1480.length ko19] HM rfl rfl ?_; clear HM; intro w20 HM; obtain ⟨_,_,_,_,_,_,_,_,_,_⟩ := bk5 (HM.bx 2 rfl)) | ((with_reducible refine gS 2 rfl ?_); refine pS 1 2 0 [.slice Xo8 t1470.length ko8, .int .i64 t1473, .slice Xo13 t1474.length ko13, .slice Xo14 t1477.length ko14, .slice Xo19 t1480.length ko19] HM rfl rfl ?_; clear HM; intro w22 HM))
 refine bodyPost_ret (results_cell_row rfl _ _ gb1468 77 #[.slice Xo8 t1470.length ko8, .int .i64 t1473, .slice Xo13 t1474.length ko13, .slice Xo14 t1477.length ko14, .slice Xo19 t1480.length ko19] (0, 0) _ rfl (HM.bx 1 rfl) Try.underlying77 rfl (by kernel_rfl)) rfl ?_
 exact ⟨_, _, _, _, ER, (MD HM).pick [3, 4, 5, 6]⟩
def laws_toSpot.f (a0_0 : ByteArray) (a0_1 : Int) : Option (ByteArray × Int) := some (a0_0, a0_1)
theorem laws_toSpot.calls (a0_0 : ByteArray) (a0_1 : Int) (r1 : ByteArray) (r2 : Int) (w : World)  (h : laws_toSpot.f a0_0 a0_1 = some (r1, r2)) :
  Calls Try.prog 137 #[.agg #[.string a0_0, .int .i64 a0_1]] w fun e w' => e = .returned (.agg #[.string r1, .int .i64 r2]) ∧ Mem w [] w' [] := by
 have hu184 := Try.underlying184
 have hu188 := Try.underlying188
 have HM := Mem.nil w
 have H := h
 clear h
 unfold laws_toSpot.f at H
 go_enter Try.func137, Try.ntmps137
 simp only [Option.some.injEq, Prod.mk.injEq] at H
 obtain ⟨rfl, rfl⟩ := H
 go_wp2_with (first | ((with_reducible refine gN 1 rfl ?_); refine pB 1 184 [.string a0_0, .int .i64 a0_1] HM rfl ?_; clear HM; intro gb1483 w2 HM) | ((with_reducible refine gN 2 rfl ?_); refine pB 2 188 [.string (⟨#[]⟩ : ByteArray), .int .i64 0] HM rfl ?_; clear HM; intro gb1484 w3 HM) | ((with_reducible refine gN 3 rfl ?_); refine pB 3 188 [.string (⟨#[]⟩ : ByteArray), .int .i64 0] HM rfl ?_; clear HM; intro gb1485 w4 HM; obtain ⟨_,_,_,_⟩ := bk2 (HM.bx 0 rfl)) | ((with_reducible refine gS 6 rfl ?_); refine pS 2 6 0 [.string a0_0] HM rfl rfl ?_; clear HM; intro w6 HM; obtain ⟨_,_,_,_⟩ := bk2 (HM.bx 0 rfl)) | ((with_reducible refine gS 9 rfl ?_); refine pS 2 9 1 [.int .i64 a0_1] HM rfl rfl ?_; clear HM; intro w8 HM; obtain ⟨_,_,_,_⟩ := bk2 (HM.bx 2 rfl)) | ((with_reducible refine gS 2 rfl ?_); refine pS 1 2 0 [.string a0_0, .int .i64 a0_1] HM rfl rfl ?_; clear HM; intro w10 HM))
 refine bodyPost_ret (results_cell_row rfl _ _ gb1484 188 #[.string a0_0, .int .i64 a0_1] (0, 0) _ rfl (HM.bx 1 rfl) Try.underlying188 rfl (by kernel_rfl)) rfl ?_
 exact ⟨ER, (MD HM).pick []⟩
def laws_toSpotS.l0 : Nat → List (S184) → List (S188) → Int → Option ((List (S188)))
 | 0, _, _, _ => none
 | k + 1, x0, x3, x4 => if x4 < (x0.length : Int) then (if 0 ≤ x4 then ((laws_toSpot.f ((rd_T184 x0 x4).f0) ((rd_T184 x0 x4).f1)).bind fun bt1490 => (if x4 < (x3.length : Int) then (laws_toSpotS.l0 k x0 (x3.set (x4 : Int).toNat (⟨bt1490.1, bt1490.2⟩ : S188)) (wrap64 (x4 + 1))) else (none))) else (none)) else (some x3)
def laws_toSpotS.f (k : Nat) (l0 : List (S184)) : Option ((List (S188))) := if 0 ≤ (l0.length : Int) then (if ((l0.length : Int) : Int).toNat ≤ 11728124029610 then (laws_toSpotS.l0 k l0 (List.replicate ((l0.length : Int) : Int).toNat z188) 0) else (none)) else (none)
theorem laws_toSpotS.calls (k : Nat) (A0 : Option Addr) (c0 : Nat) (l0 : List (S184)) (r : List (S188)) (w : World) (hr0 : Kd.C k184 w A0 l0.length l0) (hc0 : l0.length ≤ c0) (h : laws_toSpotS.f k l0 = some r) :
  Calls Try.prog 82 #[.slice A0 l0.length c0] w fun e w' => ∃ v0_ : Value, e = .returned (v0_) ∧ Mem w [] w' [rowR k188 188 v0_ r] := by
 have hu184 := Try.underlying184
 have hu188 := Try.underlying188
 have HR0 := Aside0.mk hr0
 have HC0 := Aside0.mk hc0
 clear hr0 hc0
 have HM := Mem.nil w
 have H := h
 clear h
 unfold laws_toSpotS.f at H
 go_enter Try.func82, Try.ntmps82
 replace H := GD H; obtain ⟨c2, H⟩ := H
 have c2b0 := eq_true c2
 have c2b1 : decide (0 ≤ (l0.length : Int)) = true := decide_eq_true c2
 clear c2
 replace H := GD H; obtain ⟨c3, H⟩ := H
 have c3b0 := eq_true c3
 have c3b1 : decide (((l0.length : Int) : Int).toNat ≤ 11728124029610) = true := decide_eq_true c3
 clear c3
 have H' := Aside0.mk H
 clear H
 go_wp2_with (first | ((with_reducible refine gN 7 rfl ?_); refine pM 7 k188 188 78 _ _ (l0.length : Int) (.agg #[(.string ⟨#[]⟩), (.int .i64 0)]) 24 z188 HM rfl Try.underlying78 info188 (of_decide_eq_true AS) (Nat.le_trans (Nat.mul_le_mul_right _ (of_decide_eq_true AS : (l0.length : Int).toNat ≤ 11728124029610)) (by omega)) (hzero := (k188_mkM _ _ _ z188)) ?_; clear HM; intro v1487 w4 HM))
 go_loopg [4] k (fun kq v4 w' => ∃ (x3_1 : List (S188)) (x4_1 : Int), v4 = .int .i64 x4_1 ∧ Aside0 (laws_toSpotS.l0 kq l0 x3_1 x4_1 = some r) ∧ Aside0 (kq ≤ k) ∧ Mem w [] w' [rowR k188 188 v1487 x3_1])
 case atStart => exact ⟨((List.replicate ((l0.length : Int) : Int).toNat z188)), (0), RS, H', ⟨Nat.le_refl _⟩, (MD HM).pick [0]⟩
 case round =>
  clear H' HM
  obtain ⟨x3_1, x4_1, rfl, HA, HK1, HM⟩ := hrel
  cases gk with
  | zero => exact absurd HA.out (by simp [laws_toSpotS.l0])
  | succ k1 =>
   have H := HA.out
   clear HA
   simp only [laws_toSpotS.l0] at H
   go_upto_if 11 with (fail)
   replace H := IT H; rcases H with ⟨c5, H⟩ | ⟨c5, H⟩
   ·have c5b0 := decide_eq_true c5
    clear c5
    first|rw [c5b0]|(simp only [i64_w, i32_w]; rw [c5b0])|skip
    replace H := GD H; obtain ⟨c6, H⟩ := H
    have c6b0 := decide_eq_true c6
    clear c6
    replace H := BN H; obtain ⟨⟨t1490, t1491⟩, A7, H⟩ := H
    replace H := GD H; obtain ⟨c9, H⟩ := H
    have c9b0 : decide (x4_1 < (x3_1.length : Int)) = true := decide_eq_true c9
    clear c9
    have H' := Aside0.mk H
    clear H
    have p1489 : 0 ≤ (x4_1 : Int) := of_decide_eq_true AS
    have q1489 : (x4_1 : Int) < (l0.length : Int) := of_decide_eq_true AS
    obtain ⟨ad1489, e1489, hx1489_0, hx1489_1⟩ := at_T184 (HM.came HR0.out) x4_1 p1489 q1489
    cases e1489
    replace p1489 := eq_true p1489
    replace q1489 := eq_true q1489
    go_wp2_with (first | ((with_reducible refine gC 137 rfl ?_); refine pC (some 20) rfl #[.agg #[.string ((rd_T184 l0 x4_1).f0), .int .i64 ((rd_T184 l0 x4_1).f1)]] rfl Try.func137 (laws_toSpot.calls ((rd_T184 l0 x4_1).f0) ((rd_T184 l0 x4_1).f1) t1490 t1491 _ A7.out) ?_; rintro e w8 ⟨rfl, hR⟩; refine ⟨_, rfl, ?_⟩; replace HM := HM.call hR; clear hR; obtain ⟨Xo11, ko11, rfl⟩ := HM.rdR 0 rfl; have p10 : 0 ≤ (x4_1 : Int) := of_decide_eq_true AS; have q10 : (x4_1 : Int) < ((x3_1.length : Int) : Int) := of_decide_eq_true AS; obtain ⟨go10, ef10⟩ := HM.form 0 rfl (by have h_ := (HM.CR 0 rfl).1; omega); subst ef10; obtain ⟨hcc10, hfr10⟩ := HM.el 0 rfl z188 (x4_1 : Int) p10 (by have h_ := (HM.CR 0 rfl).1; omega) [.string ((rd_T188 x3_1 x4_1).f0), .int .i64 ((rd_T188 x3_1 x4_1).f1)] (fun _ _ h => k188_openM h); have hx10_0 : w8.cell? ⟨go10, (x4_1 : Int).toNat * 2, none⟩ = some (.string ((rd_T188 x3_1 x4_1).f0)) := (by have h_ := hcc10 0 _ rfl; first | exact h_ | (simp only [show (k188).sz = 2 from rfl, Nat.mul_one, Nat.add_zero] at h_; exact h_) | simpa using h_); have hf10_0 : w8.frozen? ⟨go10, (x4_1 : Int).toNat * 2, none⟩ = false := (by have h_ := hfr10 0; first | exact h_ | (simp only [show (k188).sz = 2 from rfl, Nat.mul_one, Nat.add_zero] at h_; exact h_) | simpa using h_); have hx10_1 : w8.cell? ⟨go10, (x4_1 : Int).toNat * 2 + 1, none⟩ = some (.int .i64 ((rd_T188 x3_1 x4_1).f1)) := (by have h_ := hcc10 1 _ rfl; first | exact h_ | (simp only [show (k188).sz = 2 from rfl, Nat.mul_one, Nat.add_zero] at h_; exact h_) | simpa using h_); have hf10_1 : w8.frozen? ⟨go10, (x4_1 : Int).toNat * 2 + 1, none⟩ = false := (by have h_ := hfr10 1; first | exact h_ | (simp only [show (k188).sz = 2 from rfl, Nat.mul_one, Nat.add_zero] at h_; exact h_) | simpa using h_); clear hcc10 hfr10; replace p10 := eq_true p10; replace q10 := eq_true q10) | ((with_reducible refine gS 21 rfl ?_); refine pPR 0 21 (x4_1 : Int) 0 [.string t1490, .int .i64 t1491] k188 188 x3_1 (⟨t1490, t1491⟩ : S188) z188 [.string ((rd_T188 x3_1 x4_1).f0), .int .i64 ((rd_T188 x3_1 x4_1).f1)] HM rfl rfl (of_decide_eq_true AS) (by have h_ : (x4_1 : Int) < ((x3_1.length : Int) : Int) := of_decide_eq_true AS; have e_ := (HM.CR 0 rfl).1; omega) (fun _ _ h => k188_openM h) (k188_mkM _ _ _ (⟨t1490, t1491⟩ : S188)) ?_; clear HM; intro w12 HM))
    go_roundg k1
    case measure => have := HK1.out; omega
    case rel => exact ⟨((x3_1.set (x4_1 : Int).toNat (⟨t1490, t1491⟩ : S188))), (wrap64 (x4_1 + 1)), RS, H', ⟨by have := HK1.out; omega⟩, (MD HM).pick [0]⟩
   ·have c5b0 : decide (x4_1 < (l0.length : Int)) = false := decide_eq_false c5
    clear c5
    first|rw [c5b0]|(simp only [i64_w, i32_w]; rw [c5b0])|skip
    obtain rfl := Option.some.inj H
    go_wp2
    go_ret
    exact ⟨_, ER, (MD HM).pick [0]⟩
def laws_toDeed.f (a0_0 : Int) (a0_1 : Int) : Option (Int × Int) := some (a0_0, a0_1)
theorem laws_toDeed.calls (a0_0 : Int) (a0_1 : Int) (r1 : Int) (r2 : Int) (w : World)  (h : laws_toDeed.f a0_0 a0_1 = some (r1, r2)) :
  Calls Try.prog 138 #[.agg #[.int .i64 a0_0, .int .i64 a0_1]] w fun e w' => e = .returned (.agg #[.int .i64 r1, .int .i64 r2]) ∧ Mem w [] w' [] := by
 have hu193 := Try.underlying193
 have hu191 := Try.underlying191
 have HM := Mem.nil w
 have H := h
 clear h
 unfold laws_toDeed.f at H
 go_enter Try.func138, Try.ntmps138
 simp only [Option.some.injEq, Prod.mk.injEq] at H
 obtain ⟨rfl, rfl⟩ := H
 go_wp2_with (first | ((with_reducible refine gN 1 rfl ?_); refine pB 1 193 [.int .i64 a0_0, .int .i64 a0_1] HM rfl ?_; clear HM; intro gb1493 w2 HM) | ((with_reducible refine gN 2 rfl ?_); refine pB 2 191 [.int .i64 0, .int .i64 0] HM rfl ?_; clear HM; intro gb1494 w3 HM) | ((with_reducible refine gN 3 rfl ?_); refine pB 3 191 [.int .i64 0, .int .i64 0] HM rfl ?_; clear HM; intro gb1495 w4 HM; obtain ⟨_,_,_,_⟩ := bk2 (HM.bx 0 rfl)) | ((with_reducible refine gS 6 rfl ?_); refine pS 2 6 0 [.int .i64 a0_0] HM rfl rfl ?_; clear HM; intro w6 HM; obtain ⟨_,_,_,_⟩ := bk2 (HM.bx 0 rfl)) | ((with_reducible refine gS 9 rfl ?_); refine pS 2 9 1 [.int .i64 a0_1] HM rfl rfl ?_; clear HM; intro w8 HM; obtain ⟨_,_,_,_⟩ := bk2 (HM.bx 2 rfl)) | ((with_reducible refine gS 2 rfl ?_); refine pS 1 2 0 [.int .i64 a0_0, .int .i64 a0_1] HM rfl rfl ?_; clear HM; intro w10 HM))
 refine bodyPost_ret (results_cell_row rfl _ _ gb1494 191 #[.int .i64 a0_0, .int .i64 a0_1] (0, 0) _ rfl (HM.bx 1 rfl) Try.underlying191 rfl (by kernel_rfl)) rfl ?_
 exact ⟨ER, (MD HM).pick []⟩
def laws_toDeedS.l0 : Nat → List (S193) → List (S191) → Int → Option ((List (S191)))
 | 0, _, _, _ => none
 | k + 1, x0, x3, x4 => if x4 < (x0.length : Int) then (if 0 ≤ x4 then ((laws_toDeed.f ((rd_T193 x0 x4).f0) ((rd_T193 x0 x4).f1)).bind fun bt1500 => (if x4 < (x3.length : Int) then (laws_toDeedS.l0 k x0 (x3.set (x4 : Int).toNat (⟨bt1500.1, bt1500.2⟩ : S191)) (wrap64 (x4 + 1))) else (none))) else (none)) else (some x3)
def laws_toDeedS.f (k : Nat) (l0 : List (S193)) : Option ((List (S191))) := if 0 ≤ (l0.length : Int) then (if ((l0.length : Int) : Int).toNat ≤ 17592186044416 then (laws_toDeedS.l0 k l0 (List.replicate ((l0.length : Int) : Int).toNat z191) 0) else (none)) else (none)
theorem laws_toDeedS.calls (k : Nat) (A0 : Option Addr) (c0 : Nat) (l0 : List (S193)) (r : List (S191)) (w : World) (hr0 : Kd.C k193 w A0 l0.length l0) (hc0 : l0.length ≤ c0) (h : laws_toDeedS.f k l0 = some r) :
  Calls Try.prog 83 #[.slice A0 l0.length c0] w fun e w' => ∃ v0_ : Value, e = .returned (v0_) ∧ Mem w [] w' [rowR k191 191 v0_ r] := by
 have hu193 := Try.underlying193
 have hu191 := Try.underlying191
 have HR0 := Aside0.mk hr0
 have HC0 := Aside0.mk hc0
 clear hr0 hc0
 have HM := Mem.nil w
 have H := h
 clear h
 unfold laws_toDeedS.f at H
 go_enter Try.func83, Try.ntmps83
 replace H := GD H; obtain ⟨c2, H⟩ := H
 have c2b0 := eq_true c2
 have c2b1 : decide (0 ≤ (l0.length : Int)) = true := decide_eq_true c2
 clear c2
 replace H := GD H; obtain ⟨c3, H⟩ := H
 have c3b0 := eq_true c3
 have c3b1 : decide (((l0.length : Int) : Int).toNat ≤ 17592186044416) = true := decide_eq_true c3
 clear c3
 have H' := Aside0.mk H
 clear H
 go_wp2_with (first | ((with_reducible refine gN 7 rfl ?_); refine pM 7 k191 191 80 _ _ (l0.length : Int) (.agg #[(.int .i64 0), (.int .i64 0)]) 16 z191 HM rfl Try.underlying80 info191 (of_decide_eq_true AS) (Nat.le_trans (Nat.mul_le_mul_right _ (of_decide_eq_true AS : (l0.length : Int).toNat ≤ 17592186044416)) (by omega)) (hzero := (k191_mkM _ _ _ z191)) ?_; clear HM; intro v1497 w4 HM))
 go_loopg [4] k (fun kq v4 w' => ∃ (x3_1 : List (S191)) (x4_1 : Int), v4 = .int .i64 x4_1 ∧ Aside0 (laws_toDeedS.l0 kq l0 x3_1 x4_1 = some r) ∧ Aside0 (kq ≤ k) ∧ Mem w [] w' [rowR k191 191 v1497 x3_1])
 case atStart => exact ⟨((List.replicate ((l0.length : Int) : Int).toNat z191)), (0), RS, H', ⟨Nat.le_refl _⟩, (MD HM).pick [0]⟩
 case round =>
  clear H' HM
  obtain ⟨x3_1, x4_1, rfl, HA, HK1, HM⟩ := hrel
  cases gk with
  | zero => exact absurd HA.out (by simp [laws_toDeedS.l0])
  | succ k1 =>
   have H := HA.out
   clear HA
   simp only [laws_toDeedS.l0] at H
   go_upto_if 11 with (fail)
   replace H := IT H; rcases H with ⟨c5, H⟩ | ⟨c5, H⟩
   ·have c5b0 := decide_eq_true c5
    clear c5
    first|rw [c5b0]|(simp only [i64_w, i32_w]; rw [c5b0])|skip
    replace H := GD H; obtain ⟨c6, H⟩ := H
    have c6b0 := decide_eq_true c6
    clear c6
    replace H := BN H; obtain ⟨⟨t1500, t1501⟩, A7, H⟩ := H
    replace H := GD H; obtain ⟨c9, H⟩ := H
    have c9b0 : decide (x4_1 < (x3_1.length : Int)) = true := decide_eq_true c9
    clear c9
    have H' := Aside0.mk H
    clear H
    have p1499 : 0 ≤ (x4_1 : Int) := of_decide_eq_true AS
    have q1499 : (x4_1 : Int) < (l0.length : Int) := of_decide_eq_true AS
    obtain ⟨ad1499, e1499, hx1499_0, hx1499_1⟩ := at_T193 (HM.came HR0.out) x4_1 p1499 q1499
    cases e1499
    replace p1499 := eq_true p1499
    replace q1499 := eq_true q1499
    go_wp2_with (first | ((with_reducible refine gC 138 rfl ?_); refine pC (some 20) rfl #[.agg #[.int .i64 ((rd_T193 l0 x4_1).f0), .int .i64 ((rd_T193 l0 x4_1).f1)]] rfl Try.func138 (laws_toDeed.calls ((rd_T193 l0 x4_1).f0) ((rd_T193 l0 x4_1).f1) t1500 t1501 _ A7.out) ?_; rintro e w8 ⟨rfl, hR⟩; refine ⟨_, rfl, ?_⟩; replace HM := HM.call hR; clear hR; obtain ⟨Xo11, ko11, rfl⟩ := HM.rdR 0 rfl; have p10 : 0 ≤ (x4_1 : Int) := of_decide_eq_true AS; have q10 : (x4_1 : Int) < ((x3_1.length : Int) : Int) := of_decide_eq_true AS; obtain ⟨go10, ef10⟩ := HM.form 0 rfl (by have h_ := (HM.CR 0 rfl).1; omega); subst ef10; obtain ⟨hcc10, hfr10⟩ := HM.el 0 rfl z191 (x4_1 : Int) p10 (by have h_ := (HM.CR 0 rfl).1; omega) [.int .i64 ((rd_T191 x3_1 x4_1).f0), .int .i64 ((rd_T191 x3_1 x4_1).f1)] (fun _ _ h => k191_openM h); have hx10_0 : w8.cell? ⟨go10, (x4_1 : Int).toNat * 2, none⟩ = some (.int .i64 ((rd_T191 x3_1 x4_1).f0)) := (by have h_ := hcc10 0 _ rfl; first | exact h_ | (simp only [show (k191).sz = 2 from rfl, Nat.mul_one, Nat.add_zero] at h_; exact h_) | simpa using h_); have hf10_0 : w8.frozen? ⟨go10, (x4_1 : Int).toNat * 2, none⟩ = false := (by have h_ := hfr10 0; first | exact h_ | (simp only [show (k191).sz = 2 from rfl, Nat.mul_one, Nat.add_zero] at h_; exact h_) | simpa using h_); have hx10_1 : w8.cell? ⟨go10, (x4_1 : Int).toNat * 2 + 1, none⟩ = some (.int .i64 ((rd_T191 x3_1 x4_1).f1)) := (by have h_ := hcc10 1 _ rfl; first | exact h_ | (simp only [show (k191).sz = 2 from rfl, Nat.mul_one, Nat.add_zero] at h_; exact h_) | simpa using h_); have hf10_1 : w8.frozen? ⟨go10, (x4_1 : Int).toNat * 2 + 1, none⟩ = false := (by have h_ := hfr10 1; first | exact h_ | (simp only [show (k191).sz = 2 from rfl, Nat.mul_one, Nat.add_zero] at h_; exact h_) | simpa using h_); clear hcc10 hfr10; replace p10 := eq_true p10; replace q10 := eq_true q10) | ((with_reducible refine gS 21 rfl ?_); refine pPR 0 21 (x4_1 : Int) 0 [.int .i64 t1500, .int .i64 t1501] k191 191 x3_1 (⟨t1500, t1501⟩ : S191) z191 [.int .i64 ((rd_T191 x3_1 x4_1).f0), .int .i64 ((rd_T191 x3_1 x4_1).f1)] HM rfl rfl (of_decide_eq_true AS) (by have h_ : (x4_1 : Int) < ((x3_1.length : Int) : Int) := of_decide_eq_true AS; have e_ := (HM.CR 0 rfl).1; omega) (fun _ _ h => k191_openM h) (k191_mkM _ _ _ (⟨t1500, t1501⟩ : S191)) ?_; clear HM; intro w12 HM))
    go_roundg k1
    case measure => have := HK1.out; omega
    case rel => exact ⟨((x3_1.set (x4_1 : Int).toNat (⟨t1500, t1501⟩ : S191))), (wrap64 (x4_1 + 1)), RS, H', ⟨by have := HK1.out; omega⟩, (MD HM).pick [0]⟩
   ·have c5b0 : decide (x4_1 < (l0.length : Int)) = false := decide_eq_false c5
    clear c5
    first|rw [c5b0]|(simp only [i64_w, i32_w]; rw [c5b0])|skip
    obtain rfl := Option.some.inj H
    go_wp2
    go_ret
    exact ⟨_, ER, (MD HM).pick [0]⟩
def laws_toDesk.f (k : Nat) (a0_0 : Int) (a0_1 : Int) (l0_2 : List (S220)) (l0_3 : List (S220)) (l0_4 : List Int) (l0_5 : List Int) (a0_6 : Int) (l0_7 : List Int) (l0_8 : List (S244)) (l0_9 : List Int) (l0_10 : List (S184)) (l0_11 : List (S155)) (l0_12 : List (S193)) : Option (Int × Int × (List (S122)) × (List (S122)) × List Int × List Int × Int × List Int × (List (S242)) × List Int × (List (S188)) × (List (S135)) × (List (S191))) := (laws_toThree.f k a0_0 a0_1 l0_2 l0_3 l0_4).bind fun bt1506 => ((laws_toPool.f k l0_5 a0_6 l0_7 l0_8 l0_9).bind fun bt1517 => ((laws_toSpotS.f k l0_10).bind fun t1530 => ((laws_toUserS.f k l0_11).bind fun t1533 => ((laws_toDeedS.f k l0_12).bind fun t1536 => (some (bt1506.1, bt1506.2.1, bt1506.2.2.1, bt1506.2.2.2.1, bt1506.2.2.2.2, bt1517.1, bt1517.2.1, bt1517.2.2.1, bt1517.2.2.2.1, bt1517.2.2.2.2, t1530, t1533, t1536))))))
theorem laws_toDesk.calls (k : Nat) (a0_0 : Int) (a0_1 : Int) (A0_2 : Option Addr) (c0_2 : Nat) (l0_2 : List (S220)) (A0_3 : Option Addr) (c0_3 : Nat) (l0_3 : List (S220)) (A0_4 : Option Addr) (c0_4 : Nat) (l0_4 : List Int) (A0_5 : Option Addr) (c0_5 : Nat) (l0_5 : List Int) (a0_6 : Int) (A0_7 : Option Addr) (c0_7 : Nat) (l0_7 : List Int) (A0_8 : Option Addr) (c0_8 : Nat) (l0_8 : List (S244)) (A0_9 : Option Addr) (c0_9 : Nat) (l0_9 : List Int) (A0_10 : Option Addr) (c0_10 : Nat) (l0_10 : List (S184)) (A0_11 : Option Addr) (c0_11 : Nat) (l0_11 : List (S155)) (A0_12 : Option Addr) (c0_12 : Nat) (l0_12 : List (S193)) (r1 : Int) (r2 : Int) (r3 : List (S122)) (r4 : List (S122)) (r5 : List Int) (r6 : List Int) (r7 : Int) (r8 : List Int) (r9 : List (S242)) (r10 : List Int) (r11 : List (S188)) (r12 : List (S135)) (r13 : List (S191)) (w : World) (hr0_2 : Kd.C k220 w A0_2 l0_2.length l0_2) (hc0_2 : l0_2.length ≤ c0_2) (hr0_3 : Kd.C k220 w A0_3 l0_3.length l0_3) (hc0_3 : l0_3.length ≤ c0_3) (hr0_4 : Kd.C (Kd.int .i64) w A0_4 l0_4.length l0_4) (hc0_4 : l0_4.length ≤ c0_4) (hr0_5 : Kd.C (Kd.int .i64) w A0_5 l0_5.length l0_5) (hc0_5 : l0_5.length ≤ c0_5) (hr0_7 : Kd.C (Kd.int .i64) w A0_7 l0_7.length l0_7) (hc0_7 : l0_7.length ≤ c0_7) (hr0_8 : Kd.C k244 w A0_8 l0_8.length l0_8) (hc0_8 : l0_8.length ≤ c0_8) (hr0_9 : Kd.C (Kd.int .i64) w A0_9 l0_9.length l0_9) (hc0_9 : l0_9.length ≤ c0_9) (hr0_10 : Kd.C k184 w A0_10 l0_10.length l0_10) (hc0_10 : l0_10.length ≤ c0_10) (hr0_11 : Kd.C k155 w A0_11 l0_11.length l0_11) (hc0_11 : l0_11.length ≤ c0_11) (hr0_12 : Kd.C k193 w A0_12 l0_12.length l0_12) (hc0_12 : l0_12.length ≤ c0_12) (h : laws_toDesk.f k a0_0 a0_1 l0_2 l0_3 l0_4 l0_5 a0_6 l0_7 l0_8 l0_9 l0_10 l0_11 l0_12 = some (r1, r2, r3, r4, r5, r6, r7, r8, r9, r10, r11, r12, r13)) :
  Calls Try.prog 30 #[.agg #[.int .i64 a0_0, .int .i64 a0_1, .slice A0_2 l0_2.length c0_2, .slice A0_3 l0_3.length c0_3, .slice A0_4 l0_4.length c0_4, .slice A0_5 l0_5.length c0_5, .int .i64 a0_6, .slice A0_7 l0_7.length c0_7, .slice A0_8 l0_8.length c0_8, .slice A0_9 l0_9.length c0_9, .slice A0_10 l0_10.length c0_10, .slice A0_11 l0_11.length c0_11, .slice A0_12 l0_12.length c0_12]] w fun e w' => ∃ v2_ v3_ v4_ v5_ v7_ v8_ v9_ v10_ v11_ v12_ : Value, e = .returned (.agg #[.int .i64 r1, .int .i64 r2, v2_, v3_, v4_, v5_, .int .i64 r7, v7_, v8_, v9_, v10_, v11_, v12_]) ∧ Mem w [] w' [rowR k122 122 v2_ r3, rowR k122 122 v3_ r4, rowR (Kd.int .i64) 3 v4_ r5, rowR (Kd.int .i64) 3 v5_ r6, rowR (Kd.int .i64) 3 v7_ r8, rowR k242 242 v8_ r9, rowR (Kd.int .i64) 3 v9_ r10, rowR k188 188 v10_ r11, rr x135 135 v11_ r12, rowR k191 191 v12_ r13] := by
 have hu70 := Try.underlying70
 have hu82 := Try.underlying82
 have hu60 := Try.underlying60
 have hu32 := Try.underlying32
 have hu65 := Try.underlying65
 have hu77 := Try.underlying77
 have HR0_2 := Aside0.mk hr0_2
 have HC0_2 := Aside0.mk hc0_2
 clear hr0_2 hc0_2
 have HR0_3 := Aside0.mk hr0_3
 have HC0_3 := Aside0.mk hc0_3
 clear hr0_3 hc0_3
 have HR0_4 := Aside0.mk hr0_4
 have HC0_4 := Aside0.mk hc0_4
 clear hr0_4 hc0_4
 have HR0_5 := Aside0.mk hr0_5
 have HC0_5 := Aside0.mk hc0_5
 clear hr0_5 hc0_5
 have HR0_7 := Aside0.mk hr0_7
 have HC0_7 := Aside0.mk hc0_7
 clear hr0_7 hc0_7
 have HR0_8 := Aside0.mk hr0_8
 have HC0_8 := Aside0.mk hc0_8
 clear hr0_8 hc0_8
 have HR0_9 := Aside0.mk hr0_9
 have HC0_9 := Aside0.mk hc0_9
 clear hr0_9 hc0_9
 have HR0_10 := Aside0.mk hr0_10
 have HC0_10 := Aside0.mk hc0_10
 clear hr0_10 hc0_10
 have HR0_11 := Aside0.mk hr0_11
 have HC0_11 := Aside0.mk hc0_11
 clear hr0_11 hc0_11
 have HR0_12 := Aside0.mk hr0_12
 have HC0_12 := Aside0.mk hc0_12
 clear hr0_12 hc0_12
 have HM := Mem.nil w
 have H := h
 clear h
 unfold laws_toDesk.f at H
 go_enter Try.func30, Try.ntmps30
 replace H := BN H; obtain ⟨⟨t1506, t1507, t1508, t1511, t1514⟩, A6, H⟩ := H
 replace H := BN H; obtain ⟨⟨t1517, t1520, t1521, t1524, t1527⟩, A13, H⟩ := H
 replace H := BN H; obtain ⟨t1530, A21, H⟩ := H
 replace H := BN H; obtain ⟨t1533, A26, H⟩ := H
 replace H := BN H; obtain ⟨t1536, A31, H⟩ := H
 simp only [Option.some.injEq, Prod.mk.injEq] at H
 obtain ⟨rfl, rfl, rfl, rfl, rfl, rfl, rfl, rfl, rfl, rfl, rfl, rfl, rfl⟩ := H
 go_wp2_with (first | ((with_reducible refine gN 1 rfl ?_); refine pB 1 70 [.int .i64 a0_0, .int .i64 a0_1, .slice A0_2 l0_2.length c0_2, .slice A0_3 l0_3.length c0_3, .slice A0_4 l0_4.length c0_4, .slice A0_5 l0_5.length c0_5, .int .i64 a0_6, .slice A0_7 l0_7.length c0_7, .slice A0_8 l0_8.length c0_8, .slice A0_9 l0_9.length c0_9, .slice A0_10 l0_10.length c0_10, .slice A0_11 l0_11.length c0_11, .slice A0_12 l0_12.length c0_12] HM rfl ?_; clear HM; intro gb1503 w2 HM) | ((with_reducible refine gN 2 rfl ?_); refine pB 2 82 [.int .i64 0, .int .i64 0, .slice none 0 0, .slice none 0 0, .slice none 0 0, .slice none 0 0, .int .i64 0, .slice none 0 0, .slice none 0 0, .slice none 0 0, .slice none 0 0, .slice none 0 0, .slice none 0 0] HM rfl ?_; clear HM; intro gb1504 w3 HM) | ((with_reducible refine gN 3 rfl ?_); refine pB 3 82 [.int .i64 0, .int .i64 0, .slice none 0 0, .slice none 0 0, .slice none 0 0, .slice none 0 0, .int .i64 0, .slice none 0 0, .slice none 0 0, .slice none 0 0, .slice none 0 0, .slice none 0 0, .slice none 0 0] HM rfl ?_; clear HM; intro gb1505 w4 HM; obtain ⟨_,_,_,_,_,_,_,_,_,_,_,_,_,_,_,_,_,_,_,_,_,_,_,_,_,_⟩ := bk13 (HM.bx 0 rfl)) | ((with_reducible refine gC 80 rfl ?_); refine pC (some 6) rfl #[.agg #[.int .i64 a0_0, .int .i64 a0_1, .slice A0_2 l0_2.length c0_2, .slice A0_3 l0_3.length c0_3, .slice A0_4 l0_4.length c0_4]] rfl Try.func80 (laws_toThree.calls k a0_0 a0_1 _ _ l0_2 _ _ l0_3 _ _ l0_4 t1506 t1507 t1508 t1511 t1514 _ (HM.came HR0_2.out) HC0_2.out (HM.came HR0_3.out) HC0_3.out (HM.came HR0_4.out) HC0_4.out A6.out) ?_; rintro e w7 ⟨v1509, v1512, v1515, rfl, hR⟩; refine ⟨_, rfl, ?_⟩; replace HM := HM.call hR; clear hR; obtain ⟨Xo8, ko8, rfl⟩ := HM.rdR 3 rfl; obtain ⟨Xo9, ko9, rfl⟩ := HM.rdR 4 rfl; obtain ⟨Xo10, ko10, rfl⟩ := HM.rdR 5 rfl) | ((with_reducible refine gS 7 rfl ?_); refine pS 2 7 0 [.int .i64 t1506, .int .i64 t1507, .slice Xo8 t1508.length ko8, .slice Xo9 t1511.length ko9, .slice Xo10 t1514.length ko10] HM rfl rfl ?_; clear HM; intro w11 HM; obtain ⟨_,_,_,_,_,_,_,_,_,_,_,_,_,_,_,_,_,_,_,_,_,_,_,_,_,_⟩ := bk13 (HM.bx 0 rfl)) | ((with_reducible refine gC 81 rfl ?_); refine pC (some 10) rfl #[.agg #[.slice A0_5 l0_5.length c0_5, .int .i64 a0_6, .slice A0_7 l0_7.length c0_7, .slice A0_8 l0_8.length c0_8, .slice A0_9 l0_9.length c0_9]] rfl Try.func81 (laws_toPool.calls k _ _ l0_5 a0_6 _ _ l0_7 _ _ l0_8 _ _ l0_9 t1517 t1520 t1521 t1524 t1527 _ (HM.came HR0_5.out) HC0_5.out (HM.came HR0_7.out) HC0_7.out (HM.came HR0_8.out) HC0_8.out (HM.came HR0_9.out) HC0_9.out A13.out) ?_; rintro e w14 ⟨v1518, v1522, v1525, v1528, rfl, hR⟩; refine ⟨_, rfl, ?_⟩; replace HM := HM.call hR; clear hR; obtain ⟨Xo15, ko15, rfl⟩ := HM.rdR 6 rfl; obtain ⟨Xo16, ko16, rfl⟩ := HM.rdR 7 rfl; obtain ⟨Xo17, ko17, rfl⟩ := HM.rdR 8 rfl; obtain ⟨Xo18, ko18, rfl⟩ := HM.rdR 9 rfl) | ((with_reducible refine gS 11 rfl ?_); refine pS 2 11 5 [.slice Xo15 t1517.length ko15, .int .i64 t1520, .slice Xo16 t1521.length ko16, .slice Xo17 t1524.length ko17, .slice Xo18 t1527.length ko18] HM rfl rfl ?_; clear HM; intro w19 HM; obtain ⟨_,_,_,_,_,_,_,_,_,_,_,_,_,_,_,_,_,_,_,_,_,_,_,_,_,_⟩ := bk13 (HM.bx 0 rfl)) | ((with_reducible refine gC 82 rfl ?_); refine pC (some 14) rfl #[.slice A0_10 l0_10.length c0_10] rfl Try.func82 (laws_toSpotS.calls k _ _ l0_10 t1530 _ (HM.came HR0_10.out) HC0_10.out A21.out) ?_; rintro e w22 ⟨v1531, rfl, hR⟩; refine ⟨_, rfl, ?_⟩; replace HM := HM.call hR; clear hR; obtain ⟨Xo23, ko23, rfl⟩ := HM.rdR 10 rfl) | ((with_reducible refine gS 15 rfl ?_); refine pS 2 15 10 [.slice Xo23 t1530.length ko23] HM rfl rfl ?_; clear HM; intro w24 HM; obtain ⟨_,_,_,_,_,_,_,_,_,_,_,_,_,_,_,_,_,_,_,_,_,_,_,_,_,_⟩ := bk13 (HM.bx 0 rfl)) | ((with_reducible refine gC 44 rfl ?_); refine pC (some 18) rfl #[.slice A0_11 l0_11.length c0_11] rfl Try.func44 (laws_toUserS.calls k _ _ l0_11 t1533 _ (HM.came HR0_11.out) HC0_11.out A26.out) ?_; rintro e w27 ⟨v1534, rfl, hR⟩; refine ⟨_, rfl, ?_⟩; replace HM := HM.call hR; clear hR; obtain ⟨Xo28, ko28, rfl⟩ := HM.rdRR 11 rfl) | ((with_reducible refine gS 19 rfl ?_); refine pS 2 19 11 [.slice Xo28 t1533.length ko28] HM rfl rfl ?_; clear HM; intro w29 HM; obtain ⟨_,_,_,_,_,_,_,_,_,_,_,_,_,_,_,_,_,_,_,_,_,_,_,_,_,_⟩ := bk13 (HM.bx 0 rfl)) | ((with_reducible refine gC 83 rfl ?_); refine pC (some 22) rfl #[.slice A0_12 l0_12.length c0_12] rfl Try.func83 (laws_toDeedS.calls k _ _ l0_12 t1536 _ (HM.came HR0_12.out) HC0_12.out A31.out) ?_; rintro e w32 ⟨v1537, rfl, hR⟩; refine ⟨_, rfl, ?_⟩; replace HM := HM.call hR; clear hR; obtain ⟨Xo33, ko33, rfl⟩ := HM.rdR 12 rfl) | ((with_reducible refine gS 23 rfl ?_); refine pS 2 23 12 [.slice Xo33 t1536.length ko33] HM rfl rfl ?_; clear HM; intro w34 HM; obtain ⟨_,_,_,_,_,_,_,_,_,_,_,_,_,_,_,_,_,_,_,_,_,_,_,_,_,_⟩ := bk13 (HM.bx 2 rfl)) | ((with_reducible refine gS 2 rfl ?_); refine pS 1 2 0 [.int .i64 t1506, .int .i64 t1507, .slice Xo8 t1508.length ko8, .slice Xo9 t1511.length ko9, .slice Xo10 t1514.length ko10, .slice Xo15 t1517.length ko15, .int .i64 t1520, .slice Xo16 t1521.length ko16, .slice Xo17 t1524.length ko17, .slice Xo18 t1527.length ko18, .slice Xo23 t1530.length ko23, .slice Xo28 t1533.length ko28, .slice Xo33 t1536.length ko33] HM rfl rfl ?_; clear HM; intro w36 HM))
 refine bodyPost_ret (results_cell_row rfl _ _ gb1504 82 #[.int .i64 t1506, .int .i64 t1507, .slice Xo8 t1508.length ko8, .slice Xo9 t1511.length ko9, .slice Xo10 t1514.length ko10, .slice Xo15 t1517.length ko15, .int .i64 t1520, .slice Xo16 t1521.length ko16, .slice Xo17 t1524.length ko17, .slice Xo18 t1527.length ko18, .slice Xo23 t1530.length ko23, .slice Xo28 t1533.length ko28, .slice Xo33 t1536.length ko33] (0, 0) _ rfl (HM.bx 1 rfl) Try.underlying82 rfl (by kernel_rfl)) rfl ?_
 exact ⟨_, _, _, _, _, _, _, _, _, _, ER, (MD HM).pick [3, 4, 5, 6, 7, 8, 9, 10, 11, 12]⟩
def laws_eqReply.f (a0_0 : Bool) (a0_1 : ByteArray) (a0_2 : ByteArray) (a1_0 : Bool) (a1_1 : ByteArray) (a1_2 : ByteArray) : Option (Bool) := if (a0_0 != a1_0) = true then (none) else (if a0_1.toList = a1_1.toList then (if a0_2.toList = a1_2.toList then (some true) else (none)) else (none))
theorem laws_eqReply.calls (a0_0 : Bool) (a0_1 : ByteArray) (a0_2 : ByteArray) (a1_0 : Bool) (a1_1 : ByteArray) (a1_2 : ByteArray) (r : Bool) (w : World)  (h : laws_eqReply.f a0_0 a0_1 a0_2 a1_0 a1_1 a1_2 = some r) :
  Calls Try.prog 93 #[.agg #[.bool a0_0, .string a0_1, .string a0_2], .agg #[.bool a1_0, .string a1_1, .string a1_2]] w fun e w' => e = .returned (.bool r) ∧ Mem w [] w' [] := by
 have hu150 := Try.underlying150
 have HM := Mem.nil w
 have H := h
 clear h
 unfold laws_eqReply.f at H
 go_enter Try.func93, Try.ntmps93
 replace H := GN H; obtain ⟨c7, H⟩ := H
 have c7b0 : (a0_0 != a1_0) = false := by simpa using c7
 (try (have c7b1 : decide (a0_0 = a1_0) = true := by simpa using c7))
 (try (have c7b2 : (a0_0 == a1_0) = true := by simpa using c7))
 have c7b8 := c7
 try simp at c7b8
 clear c7
 replace H := GD H; obtain ⟨c8, H⟩ := H
 obtain ⟨c8b0, c8b1⟩ := BE c8
 clear c8
 replace H := GD H; obtain ⟨c9, H⟩ := H
 obtain ⟨c9b0, c9b1⟩ := BE c9
 clear c9
 obtain rfl := Option.some.inj H
 go_wp2_with (first | ((with_reducible refine gN 2 rfl ?_); refine pB 2 150 [.bool a0_0, .string a0_1, .string a0_2] HM rfl ?_; clear HM; intro gb1552 w3 HM) | ((with_reducible refine gN 3 rfl ?_); refine pB 3 150 [.bool a1_0, .string a1_1, .string a1_2] HM rfl ?_; clear HM; intro gb1553 w4 HM; obtain ⟨_,_,_,_,_,_⟩ := bk3 (HM.bx 0 rfl); obtain ⟨_,_,_,_,_,_⟩ := bk3 (HM.bx 1 rfl)))
 go_ret
 exact ⟨ER, (MD HM).pick []⟩
def laws_eqReplyS.l0 : Nat → List (S150) → List (S150) → Int → Option (Bool)
 | 0, _, _, _ => none
 | k + 1, x0, x1, x5 => if x5 < (x0.length : Int) then (if 0 ≤ x5 then (if x5 < (x1.length : Int) then ((laws_eqReply.f ((rd_T150 x0 x5).f0) ((rd_T150 x0 x5).f1) ((rd_T150 x0 x5).f2) ((rd_T150 x1 x5).f0) ((rd_T150 x1 x5).f1) ((rd_T150 x1 x5).f2)).bind fun t1556 => (if t1556 = true then (laws_eqReplyS.l0 k x0 x1 (wrap64 (x5 + 1))) else (none))) else (none)) else (none)) else (some true)
def laws_eqReplyS.f (k : Nat) (l0 : List (S150)) (l1 : List (S150)) : Option (Bool) := if (l0.length : Int) = (l1.length : Int) then (laws_eqReplyS.l0 k l0 l1 0) else (none)
def laws_eqReplyS.T6 : Bool × List (List Nat × List Nat) := (true, [([], []), ([], []), ([0, 1], [0, 1]), ([2], [2]), ([], []), ([], []), ([4, 5], [4, 5]), ([6], [6]), ([3, 7], [3, 7]), ([8], [8])])
def laws_eqReplyS.B6 : List Nat := [0, 0, 3, 7, 0, 0, 48, 112, 255, 511]
theorem laws_eqReplyS.tab6 : rtab .any (opsOf Try.f39 6) = laws_eqReplyS.T6 := by kernel_rfl
theorem laws_eqReplyS.bits6 : waitsOk laws_eqReplyS.T6.2 laws_eqReplyS.B6 = true := by kernel_rfl
theorem laws_eqReplyS.calls (k : Nat) (A0 : Option Addr) (c0 : Nat) (l0 : List (S150)) (A1 : Option Addr) (c1 : Nat) (l1 : List (S150)) (r : Bool) (w : World) (hr0 : Kd.C k150 w A0 l0.length l0) (hc0 : l0.length ≤ c0) (hr1 : Kd.C k150 w A1 l1.length l1) (hc1 : l1.length ≤ c1) (h : laws_eqReplyS.f k l0 l1 = some r) :
  Calls Try.prog 39 #[.slice A0 l0.length c0, .slice A1 l1.length c1] w fun e w' => e = .returned (.bool r) ∧ Mem w [] w' [] := by
 have hu150 := Try.underlying150
 have HR0 := Aside0.mk hr0
 have HC0 := Aside0.mk hc0
 clear hr0 hc0
 have HR1 := Aside0.mk hr1
 have HC1 := Aside0.mk hc1
 clear hr1 hc1
 have HM := Mem.nil w
 have H := h
 clear h
 unfold laws_eqReplyS.f at H
 go_enter Try.func39, Try.ntmps39
 replace H := GD H; obtain ⟨c3, H⟩ := H
 obtain ⟨c3b0, c3b1⟩ := BE c3
 have c3b2 : (l0.length == l1.length) = true := by first | simpa using c3 | (simp at c3 ⊢; omega)
 clear c3
 have H' := Aside0.mk H
 clear H
 go_wp2
 go_loopg [5] k (fun kq v5 w' => ∃ (x5_1 : Int), v5 = .int .i64 x5_1 ∧ Aside0 (laws_eqReplyS.l0 kq l0 l1 x5_1 = some r) ∧ Aside0 (kq ≤ k) ∧ Mem w [] w' [])
 case atStart => exact ⟨(0), RS, H', ⟨Nat.le_refl _⟩, (MD HM).pick []⟩
 case round =>
  clear H' HM
  obtain ⟨x5_1, rfl, HA, HK1, HM⟩ := hrel
  cases gk with
  | zero => exact absurd HA.out (by simp [laws_eqReplyS.l0])
  | succ k1 =>
   have H := HA.out
   clear HA
   simp only [laws_eqReplyS.l0] at H
   go_upto_if 14 with (fail)
   replace H := IT H; rcases H with ⟨c4, H⟩ | ⟨c4, H⟩
   ·have c4b0 := decide_eq_true c4
    clear c4
    first|rw [c4b0]|(simp only [i64_w, i32_w]; rw [c4b0])|skip
    try go_wp2
    replace H := GD H; obtain ⟨c5, H⟩ := H
    have c5b0 := decide_eq_true c5
    clear c5
    replace H := GD H; obtain ⟨c6, H⟩ := H
    have c6b0 := decide_eq_true c6
    clear c6
    replace H := BN H; obtain ⟨t1556, A7, H⟩ := H
    have p1554 : 0 ≤ (x5_1 : Int) := of_decide_eq_true AS
    have q1554 : (x5_1 : Int) < (l0.length : Int) := of_decide_eq_true AS
    obtain ⟨ad1554, e1554, hx1554_0, hx1554_1, hx1554_2⟩ := at_T150 (HM.came HR0.out) x5_1 p1554 q1554
    cases e1554
    replace p1554 := eq_true p1554
    replace q1554 := eq_true q1554
    have p1555 : 0 ≤ (x5_1 : Int) := of_decide_eq_true AS
    have q1555 : (x5_1 : Int) < (l1.length : Int) := of_decide_eq_true AS
    obtain ⟨ad1555, e1555, hx1555_0, hx1555_1, hx1555_2⟩ := at_T150 (HM.came HR1.out) x5_1 p1555 q1555
    cases e1555
    replace p1555 := eq_true p1555
    replace q1555 := eq_true q1555
    refine RGN 10 [0, 1, 2, 3, 4, 5, 6, 7, 8, 9] (fun a0 b a w' => a = putSel a0 b [(0, 17, .slice (some ad1554) l0.length c0), (1, 18, .int .i64 x5_1), (2, 19, .pointer (some (ad1554.add ((x5_1).toNat * 3)))), (3, 20, .agg #[.bool ((rd_T150 l0 x5_1).f0), .string ((rd_T150 l0 x5_1).f1), .string ((rd_T150 l0 x5_1).f2)]), (4, 21, .slice (some ad1555) l1.length c1), (5, 22, .int .i64 x5_1), (6, 23, .pointer (some (ad1555.add ((x5_1).toNat * 3)))), (7, 24, .agg #[.bool ((rd_T150 l1 x5_1).f0), .string ((rd_T150 l1 x5_1).f1), .string ((rd_T150 l1 x5_1).f2)]), (8, 25, .bool t1556), (9, 26, .bool (!t1556))] ∧ Mem w [] w' []) laws_eqReplyS.tab6 laws_eqReplyS.bits6 ?_ ?_ ?_
    ·exact ⟨PS0' rfl _, (HM.drew).pick []⟩
    ·clear HM
     refine SY ?_ ?_
     ·intro b a w ha HM hb hon hoff K hK
      have e0 := PG ha 0
      exact VL (.slice (some ad1554) l0.length c0) (hK.out _ _ ⟨PUT ha 0 hb, HM⟩)
     refine SY ?_ ?_
     ·intro b a w ha HM hb hon hoff K hK
      have e5 := PG ha 5
      exact VL (.int .i64 x5_1) (hK.out _ _ ⟨PUT ha 1 hb, HM⟩)
     refine SY ?_ ?_
     ·intro b a w ha HM hb hon hoff K hK
      have p1554 : 0 ≤ (x5_1 : Int) := of_decide_eq_true AS
      have q1554 : (x5_1 : Int) < (l0.length : Int) := of_decide_eq_true AS
      obtain ⟨ad1554, e1554, hx1554_0, hx1554_1, hx1554_2⟩ := at_T150 (HM.came HR0.out) x5_1 p1554 q1554
      obtain rfl := Option.some.inj e1554
      replace p1554 := eq_true p1554
      replace q1554 := eq_true q1554
      have e17 := PE ha 0 hon
      have e18 := PE ha 1 hon
      exact VL (.pointer (some (ad1554.add ((x5_1).toNat * 3)))) (hK.out _ _ ⟨PUT ha 2 hb, HM⟩)
     refine SY ?_ ?_
     ·intro b a w ha HM hb hon hoff K hK
      have p1554 : 0 ≤ (x5_1 : Int) := of_decide_eq_true AS
      have q1554 : (x5_1 : Int) < (l0.length : Int) := of_decide_eq_true AS
      obtain ⟨ad1554, e1554, hx1554_0, hx1554_1, hx1554_2⟩ := at_T150 (HM.came HR0.out) x5_1 p1554 q1554
      obtain rfl := Option.some.inj e1554
      replace p1554 := eq_true p1554
      replace q1554 := eq_true q1554
      have e19 := PE ha 2 hon
      exact VL (.agg #[.bool ((rd_T150 l0 x5_1).f0), .string ((rd_T150 l0 x5_1).f1), .string ((rd_T150 l0 x5_1).f2)]) (hK.out _ _ ⟨PUT ha 3 hb, HM⟩)
     refine SY ?_ ?_
     ·intro b a w ha HM hb hon hoff K hK
      have e1 := PG ha 1
      exact VL (.slice (some ad1555) l1.length c1) (hK.out _ _ ⟨PUT ha 4 hb, HM⟩)
     refine SY ?_ ?_
     ·intro b a w ha HM hb hon hoff K hK
      have e5 := PG ha 5
      exact VL (.int .i64 x5_1) (hK.out _ _ ⟨PUT ha 5 hb, HM⟩)
     refine SY ?_ ?_
     ·intro b a w ha HM hb hon hoff K hK
      have p1555 : 0 ≤ (x5_1 : Int) := of_decide_eq_true AS
      have q1555 : (x5_1 : Int) < (l1.length : Int) := of_decide_eq_true AS
      obtain ⟨ad1555, e1555, hx1555_0, hx1555_1, hx1555_2⟩ := at_T150 (HM.came HR1.out) x5_1 p1555 q1555
      obtain rfl := Option.some.inj e1555
      replace p1555 := eq_true p1555
      replace q1555 := eq_true q1555
      have e21 := PE ha 4 hon
      have e22 := PE ha 5 hon
      exact VL (.pointer (some (ad1555.add ((x5_1).toNat * 3)))) (hK.out _ _ ⟨PUT ha 6 hb, HM⟩)
     refine SY ?_ ?_
     ·intro b a w ha HM hb hon hoff K hK
      have p1555 : 0 ≤ (x5_1 : Int) := of_decide_eq_true AS
      have q1555 : (x5_1 : Int) < (l1.length : Int) := of_decide_eq_true AS
      obtain ⟨ad1555, e1555, hx1555_0, hx1555_1, hx1555_2⟩ := at_T150 (HM.came HR1.out) x5_1 p1555 q1555
      obtain rfl := Option.some.inj e1555
      replace p1555 := eq_true p1555
      replace q1555 := eq_true q1555
      have e23 := PE ha 6 hon
      exact VL (.agg #[.bool ((rd_T150 l1 x5_1).f0), .string ((rd_T150 l1 x5_1).f1), .string ((rd_T150 l1 x5_1).f2)]) (hK.out _ _ ⟨PUT ha 7 hb, HM⟩)
     refine SY ?_ ?_
     ·intro b a w ha HM hb hon hoff K hK
      have e20 := PE ha 3 hon
      have e24 := PE ha 7 hon
      refine ST (eC (some 25) rfl #[.agg #[.bool ((rd_T150 l0 x5_1).f0), .string ((rd_T150 l0 x5_1).f1), .string ((rd_T150 l0 x5_1).f2)], .agg #[.bool ((rd_T150 l1 x5_1).f0), .string ((rd_T150 l1 x5_1).f1), .string ((rd_T150 l1 x5_1).f2)]] rfl Try.func93 (laws_eqReply.calls ((rd_T150 l0 x5_1).f0) ((rd_T150 l0 x5_1).f1) ((rd_T150 l0 x5_1).f2) ((rd_T150 l1 x5_1).f0) ((rd_T150 l1 x5_1).f1) ((rd_T150 l1 x5_1).f2) t1556 _ A7.out) ?_ (hargs := by (simp only [List.map_toArray, List.map_cons, List.map_nil, evc, eval_of e20, eval_of e24]) <;> rfl))
      rintro e w9 ⟨rfl, hR⟩
      refine ⟨_, rfl, ?_⟩
      replace HM := HM.call hR
      clear hR
      exact hK.out _ _ ⟨PUT ha 8 hb, (HM).pick []⟩
     refine SY ?_ ?_
     ·intro b a w ha HM hb hon hoff K hK
      have e25 := PE ha 8 hon
      exact VL (.bool (!t1556)) (hK.out _ _ ⟨PUT ha 9 hb, HM⟩)
     exact steps_nil
    rintro _ w10 ⟨rfl, HM⟩
    simp only [putSel, if_true, Act.put, List.setIfInBounds_toArray, List.set_cons_zero, List.set_cons_succ, gt_iff_lt, ge_iff_le]
    replace H := GD H
    obtain ⟨c11, H⟩ := H
    subst c11
    have H' := Aside0.mk H
    clear H
    go_wp2
    go_roundg k1
    case measure => have := HK1.out; omega
    case rel => exact ⟨(wrap64 (x5_1 + 1)), RS, H', ⟨by have := HK1.out; omega⟩, (MD HM).pick []⟩
   ·have c4b0 := decide_eq_false c4
    clear c4
    first|rw [c4b0]|(simp only [i64_w, i32_w]; rw [c4b0])|skip
    obtain rfl := Option.some.inj H
    go_wp2
    go_ret
    exact ⟨ER, (MD HM).pick []⟩
def laws_eqOp.f (a0_0 : Int) (a0_1 : ByteArray) (a0_2 : ByteArray) (a1_0 : Int) (a1_1 : ByteArray) (a1_2 : ByteArray) : Option (Bool) := if a0_0 = a1_0 then (if a0_1.toList = a1_1.toList then (if a0_2.toList = a1_2.toList then (some true) else (none)) else (none)) else (none)
theorem laws_eqOp.calls (a0_0 : Int) (a0_1 : ByteArray) (a0_2 : ByteArray) (a1_0 : Int) (a1_1 : ByteArray) (a1_2 : ByteArray) (r : Bool) (w : World)  (h : laws_eqOp.f a0_0 a0_1 a0_2 a1_0 a1_1 a1_2 = some r) :
  Calls Try.prog 116 #[.agg #[.int .i64 a0_0, .string a0_1, .string a0_2], .agg #[.int .i64 a1_0, .string a1_1, .string a1_2]] w fun e w' => e = .returned (.bool r) ∧ Mem w [] w' [] := by
 have hu43 := Try.underlying43
 have HM := Mem.nil w
 have H := h
 clear h
 unfold laws_eqOp.f at H
 go_enter Try.func116, Try.ntmps116
 replace H := GD H; obtain ⟨c7, H⟩ := H
 obtain ⟨c7b0, c7b1⟩ := BE c7
 clear c7
 replace H := GD H; obtain ⟨c8, H⟩ := H
 obtain ⟨c8b0, c8b1⟩ := BE c8
 clear c8
 replace H := GD H; obtain ⟨c9, H⟩ := H
 obtain ⟨c9b0, c9b1⟩ := BE c9
 clear c9
 obtain rfl := Option.some.inj H
 go_wp2_with (first | ((with_reducible refine gN 2 rfl ?_); refine pB 2 43 [.int .i64 a0_0, .string a0_1, .string a0_2] HM rfl ?_; clear HM; intro gb369 w3 HM) | ((with_reducible refine gN 3 rfl ?_); refine pB 3 43 [.int .i64 a1_0, .string a1_1, .string a1_2] HM rfl ?_; clear HM; intro gb370 w4 HM; obtain ⟨_,_,_,_,_,_⟩ := bk3 (HM.bx 0 rfl); obtain ⟨_,_,_,_,_,_⟩ := bk3 (HM.bx 1 rfl)))
 go_ret
 exact ⟨ER, (MD HM).pick []⟩
def laws_eqOpS.l0 : Nat → List (S43) → List (S43) → Int → Option (Bool)
 | 0, _, _, _ => none
 | k + 1, x0, x1, x5 => if x5 < (x0.length : Int) then (if 0 ≤ x5 then (if x5 < (x1.length : Int) then ((laws_eqOp.f ((rd_T43 x0 x5).f0) ((rd_T43 x0 x5).f1) ((rd_T43 x0 x5).f2) ((rd_T43 x1 x5).f0) ((rd_T43 x1 x5).f1) ((rd_T43 x1 x5).f2)).bind fun t1559 => (if t1559 = true then (laws_eqOpS.l0 k x0 x1 (wrap64 (x5 + 1))) else (none))) else (none)) else (none)) else (some true)
def laws_eqOpS.f (k : Nat) (l0 : List (S43)) (l1 : List (S43)) : Option (Bool) := if (l0.length : Int) = (l1.length : Int) then (laws_eqOpS.l0 k l0 l1 0) else (none)
def laws_eqOpS.T6 : Bool × List (List Nat × List Nat) := (true, [([], []), ([], []), ([0, 1], [0, 1]), ([2], [2]), ([], []), ([], []), ([4, 5], [4, 5]), ([6], [6]), ([3, 7], [3, 7]), ([8], [8])])
def laws_eqOpS.B6 : List Nat := [0, 0, 3, 7, 0, 0, 48, 112, 255, 511]
theorem laws_eqOpS.tab6 : rtab .any (opsOf Try.f155 6) = laws_eqOpS.T6 := by kernel_rfl
theorem laws_eqOpS.bits6 : waitsOk laws_eqOpS.T6.2 laws_eqOpS.B6 = true := by kernel_rfl
theorem laws_eqOpS.calls (k : Nat) (A0 : Option Addr) (c0 : Nat) (l0 : List (S43)) (A1 : Option Addr) (c1 : Nat) (l1 : List (S43)) (r : Bool) (w : World) (hr0 : Kd.C k43 w A0 l0.length l0) (hc0 : l0.length ≤ c0) (hr1 : Kd.C k43 w A1 l1.length l1) (hc1 : l1.length ≤ c1) (h : laws_eqOpS.f k l0 l1 = some r) :
  Calls Try.prog 155 #[.slice A0 l0.length c0, .slice A1 l1.length c1] w fun e w' => e = .returned (.bool r) ∧ Mem w [] w' [] := by
 have hu43 := Try.underlying43
 have HR0 := Aside0.mk hr0
 have HC0 := Aside0.mk hc0
 clear hr0 hc0
 have HR1 := Aside0.mk hr1
 have HC1 := Aside0.mk hc1
 clear hr1 hc1
 have HM := Mem.nil w
 have H := h
 clear h
 unfold laws_eqOpS.f at H
 go_enter Try.func155, Try.ntmps155
 replace H := GD H; obtain ⟨c3, H⟩ := H
 obtain ⟨c3b0, c3b1⟩ := BE c3
 have c3b2 : (l0.length == l1.length) = true := by first | simpa using c3 | (simp at c3 ⊢; omega)
 clear c3
 have H' := Aside0.mk H
 clear H
 go_wp2
 go_loopg [5] k (fun kq v5 w' => ∃ (x5_1 : Int), v5 = .int .i64 x5_1 ∧ Aside0 (laws_eqOpS.l0 kq l0 l1 x5_1 = some r) ∧ Aside0 (kq ≤ k) ∧ Mem w [] w' [])
 case atStart => exact ⟨(0), RS, H', ⟨Nat.le_refl _⟩, (MD HM).pick []⟩
 case round =>
  clear H' HM
  obtain ⟨x5_1, rfl, HA, HK1, HM⟩ := hrel
  cases gk with
  | zero => exact absurd HA.out (by simp [laws_eqOpS.l0])
  | succ k1 =>
   have H := HA.out
   clear HA
   simp only [laws_eqOpS.l0] at H
   go_upto_if 14 with (fail)
   replace H := IT H; rcases H with ⟨c4, H⟩ | ⟨c4, H⟩
   ·have c4b0 := decide_eq_true c4
    clear c4
    first|rw [c4b0]|(simp only [i64_w, i32_w]; rw [c4b0])|skip
    try go_wp2
    replace H := GD H; obtain ⟨c5, H⟩ := H
    have c5b0 := decide_eq_true c5
    clear c5
    replace H := GD H; obtain ⟨c6, H⟩ := H
    have c6b0 := decide_eq_true c6
    clear c6
    replace H := BN H; obtain ⟨t1559, A7, H⟩ := H
    have p1557 : 0 ≤ (x5_1 : Int) := of_decide_eq_true AS
    have q1557 : (x5_1 : Int) < (l0.length : Int) := of_decide_eq_true AS
    obtain ⟨ad1557, e1557, hx1557_0, hx1557_1, hx1557_2⟩ := at_T43 (HM.came HR0.out) x5_1 p1557 q1557
    cases e1557
    replace p1557 := eq_true p1557
    replace q1557 := eq_true q1557
    have p1558 : 0 ≤ (x5_1 : Int) := of_decide_eq_true AS
    have q1558 : (x5_1 : Int) < (l1.length : Int) := of_decide_eq_true AS
    obtain ⟨ad1558, e1558, hx1558_0, hx1558_1, hx1558_2⟩ := at_T43 (HM.came HR1.out) x5_1 p1558 q1558
    cases e1558
    replace p1558 := eq_true p1558
    replace q1558 := eq_true q1558
    refine RGN 10 [0, 1, 2, 3, 4, 5, 6, 7, 8, 9] (fun a0 b a w' => a = putSel a0 b [(0, 17, .slice (some ad1557) l0.length c0), (1, 18, .int .i64 x5_1), (2, 19, .pointer (some (ad1557.add ((x5_1).toNat * 3)))), (3, 20, .agg #[.int .i64 ((rd_T43 l0 x5_1).f0), .string ((rd_T43 l0 x5_1).f1), .string ((rd_T43 l0 x5_1).f2)]), (4, 21, .slice (some ad1558) l1.length c1), (5, 22, .int .i64 x5_1), (6, 23, .pointer (some (ad1558.add ((x5_1).toNat * 3)))), (7, 24, .agg #[.int .i64 ((rd_T43 l1 x5_1).f0), .string ((rd_T43 l1 x5_1).f1), .string ((rd_T43 l1 x5_1).f2)]), (8, 25, .bool t1559), (9, 26, .bool (!t1559))] ∧ Mem w [] w' []) laws_eqOpS.tab6 laws_eqOpS.bits6 ?_ ?_ ?_
    ·exact ⟨PS0' rfl _, (HM.drew).pick []⟩
    ·clear HM
     refine SY ?_ ?_
     ·intro b a w ha HM hb hon hoff K hK
      have e0 := PG ha 0
      exact VL (.slice (some ad1557) l0.length c0) (hK.out _ _ ⟨PUT ha 0 hb, HM⟩)
     refine SY ?_ ?_
     ·intro b a w ha HM hb hon hoff K hK
      have e5 := PG ha 5
      exact VL (.int .i64 x5_1) (hK.out _ _ ⟨PUT ha 1 hb, HM⟩)
     refine SY ?_ ?_
     ·intro b a w ha HM hb hon hoff K hK
      have p1557 : 0 ≤ (x5_1 : Int) := of_decide_eq_true AS
      have q1557 : (x5_1 : Int) < (l0.length : Int) := of_decide_eq_true AS
      obtain ⟨ad1557, e1557, hx1557_0, hx1557_1, hx1557_2⟩ := at_T43 (HM.came HR0.out) x5_1 p1557 q1557
      obtain rfl := Option.some.inj e1557
      replace p1557 := eq_true p1557
      replace q1557 := eq_true q1557
      have e17 := PE ha 0 hon
      have e18 := PE ha 1 hon
      exact VL (.pointer (some (ad1557.add ((x5_1).toNat * 3)))) (hK.out _ _ ⟨PUT ha 2 hb, HM⟩)
     refine SY ?_ ?_
     ·intro b a w ha HM hb hon hoff K hK
      have p1557 : 0 ≤ (x5_1 : Int) := of_decide_eq_true AS
      have q1557 : (x5_1 : Int) < (l0.length : Int) := of_decide_eq_true AS
      obtain ⟨ad1557, e1557, hx1557_0, hx1557_1, hx1557_2⟩ := at_T43 (HM.came HR0.out) x5_1 p1557 q1557
      obtain rfl := Option.some.inj e1557
      replace p1557 := eq_true p1557
      replace q1557 := eq_true q1557
      have e19 := PE ha 2 hon
      exact VL (.agg #[.int .i64 ((rd_T43 l0 x5_1).f0), .string ((rd_T43 l0 x5_1).f1), .string ((rd_T43 l0 x5_1).f2)]) (hK.out _ _ ⟨PUT ha 3 hb, HM⟩)
     refine SY ?_ ?_
     ·intro b a w ha HM hb hon hoff K hK
      have e1 := PG ha 1
      exact VL (.slice (some ad1558) l1.length c1) (hK.out _ _ ⟨PUT ha 4 hb, HM⟩)
     refine SY ?_ ?_
     ·intro b a w ha HM hb hon hoff K hK
      have e5 := PG ha 5
      exact VL (.int .i64 x5_1) (hK.out _ _ ⟨PUT ha 5 hb, HM⟩)
     refine SY ?_ ?_
     ·intro b a w ha HM hb hon hoff K hK
      have p1558 : 0 ≤ (x5_1 : Int) := of_decide_eq_true AS
      have q1558 : (x5_1 : Int) < (l1.length : Int) := of_decide_eq_true AS
      obtain ⟨ad1558, e1558, hx1558_0, hx1558_1, hx1558_2⟩ := at_T43 (HM.came HR1.out) x5_1 p1558 q1558
      obtain rfl := Option.some.inj e1558
      replace p1558 := eq_true p1558
      replace q1558 := eq_true q1558
      have e21 := PE ha 4 hon
      have e22 := PE ha 5 hon
      exact VL (.pointer (some (ad1558.add ((x5_1).toNat * 3)))) (hK.out _ _ ⟨PUT ha 6 hb, HM⟩)
     refine SY ?_ ?_
     ·intro b a w ha HM hb hon hoff K hK
      have p1558 : 0 ≤ (x5_1 : Int) := of_decide_eq_true AS
      have q1558 : (x5_1 : Int) < (l1.length : Int) := of_decide_eq_true AS
      obtain ⟨ad1558, e1558, hx1558_0, hx1558_1, hx1558_2⟩ := at_T43 (HM.came HR1.out) x5_1 p1558 q1558
      obtain rfl := Option.some.inj e1558
      replace p1558 := eq_true p1558
      replace q1558 := eq_true q1558
      have e23 := PE ha 6 hon
      exact VL (.agg #[.int .i64 ((rd_T43 l1 x5_1).f0), .string ((rd_T43 l1 x5_1).f1), .string ((rd_T43 l1 x5_1).f2)]) (hK.out _ _ ⟨PUT ha 7 hb, HM⟩)
     refine SY ?_ ?_
     ·intro b a w ha HM hb hon hoff K hK
      have e20 := PE ha 3 hon
      have e24 := PE ha 7 hon
      refine ST (eC (some 25) rfl #[.agg #[.int .i64 ((rd_T43 l0 x5_1).f0), .string ((rd_T43 l0 x5_1).f1), .string ((rd_T43 l0 x5_1).f2)], .agg #[.int .i64 ((rd_T43 l1 x5_1).f0), .string ((rd_T43 l1 x5_1).f1), .string ((rd_T43 l1 x5_1).f2)]] rfl Try.func116 (laws_eqOp.calls ((rd_T43 l0 x5_1).f0) ((rd_T43 l0 x5_1).f1) ((rd_T43 l0 x5_1).f2) ((rd_T43 l1 x5_1).f0) ((rd_T43 l1 x5_1).f1) ((rd_T43 l1 x5_1).f2) t1559 _ A7.out) ?_ (hargs := by (simp only [List.map_toArray, List.map_cons, List.map_nil, evc, eval_of e20, eval_of e24]) <;> rfl))
      rintro e w9 ⟨rfl, hR⟩
      refine ⟨_, rfl, ?_⟩
      replace HM := HM.call hR
      clear hR
      exact hK.out _ _ ⟨PUT ha 8 hb, (HM).pick []⟩
     refine SY ?_ ?_
     ·intro b a w ha HM hb hon hoff K hK
      have e25 := PE ha 8 hon
      exact VL (.bool (!t1559)) (hK.out _ _ ⟨PUT ha 9 hb, HM⟩)
     exact steps_nil
    rintro _ w10 ⟨rfl, HM⟩
    simp only [putSel, if_true, Act.put, List.setIfInBounds_toArray, List.set_cons_zero, List.set_cons_succ, gt_iff_lt, ge_iff_le]
    replace H := GD H
    obtain ⟨c11, H⟩ := H
    subst c11
    have H' := Aside0.mk H
    clear H
    go_wp2
    go_roundg k1
    case measure => have := HK1.out; omega
    case rel => exact ⟨(wrap64 (x5_1 + 1)), RS, H', ⟨by have := HK1.out; omega⟩, (MD HM).pick []⟩
   ·have c4b0 := decide_eq_false c4
    clear c4
    first|rw [c4b0]|(simp only [i64_w, i32_w]; rw [c4b0])|skip
    obtain rfl := Option.some.inj H
    go_wp2
    go_ret
    exact ⟨ER, (MD HM).pick []⟩
def laws_eqUser.f (k : Nat) (l0_0 : List (S43)) (a0_1 : Int) (a0_2 : Int) (a0_3 : Int) (l0_4 : List (S150)) (l1_0 : List (S43)) (a1_1 : Int) (a1_2 : Int) (a1_3 : Int) (l1_4 : List (S150)) : Option (Bool) := (laws_eqOpS.f k l0_0 l1_0).bind fun t1562 => (if t1562 = true then (if a0_1 = a1_1 then (if a0_2 = a1_2 then (if a0_3 = a1_3 then ((laws_eqReplyS.f k l0_4 l1_4).bind fun t1563 => (if t1563 = true then (some true) else (none))) else (none)) else (none)) else (none)) else (none))
theorem laws_eqUser.calls (k : Nat) (A0_0 : Option Addr) (c0_0 : Nat) (l0_0 : List (S43)) (a0_1 : Int) (a0_2 : Int) (a0_3 : Int) (A0_4 : Option Addr) (c0_4 : Nat) (l0_4 : List (S150)) (A1_0 : Option Addr) (c1_0 : Nat) (l1_0 : List (S43)) (a1_1 : Int) (a1_2 : Int) (a1_3 : Int) (A1_4 : Option Addr) (c1_4 : Nat) (l1_4 : List (S150)) (r : Bool) (w : World) (hr0_0 : Kd.C k43 w A0_0 l0_0.length l0_0) (hc0_0 : l0_0.length ≤ c0_0) (hr0_4 : Kd.C k150 w A0_4 l0_4.length l0_4) (hc0_4 : l0_4.length ≤ c0_4) (hr1_0 : Kd.C k43 w A1_0 l1_0.length l1_0) (hc1_0 : l1_0.length ≤ c1_0) (hr1_4 : Kd.C k150 w A1_4 l1_4.length l1_4) (hc1_4 : l1_4.length ≤ c1_4) (h : laws_eqUser.f k l0_0 a0_1 a0_2 a0_3 l0_4 l1_0 a1_1 a1_2 a1_3 l1_4 = some r) :
  Calls Try.prog 102 #[.agg #[.slice A0_0 l0_0.length c0_0, .int .i64 a0_1, .int .i64 a0_2, .int .i64 a0_3, .slice A0_4 l0_4.length c0_4], .agg #[.slice A1_0 l1_0.length c1_0, .int .i64 a1_1, .int .i64 a1_2, .int .i64 a1_3, .slice A1_4 l1_4.length c1_4]] w fun e w' => e = .returned (.bool r) ∧ Mem w [] w' [] := by
 have hu135 := Try.underlying135
 have HR0_0 := Aside0.mk hr0_0
 have HC0_0 := Aside0.mk hc0_0
 clear hr0_0 hc0_0
 have HR0_4 := Aside0.mk hr0_4
 have HC0_4 := Aside0.mk hc0_4
 clear hr0_4 hc0_4
 have HR1_0 := Aside0.mk hr1_0
 have HC1_0 := Aside0.mk hc1_0
 clear hr1_0 hc1_0
 have HR1_4 := Aside0.mk hr1_4
 have HC1_4 := Aside0.mk hc1_4
 clear hr1_4 hc1_4
 have HM := Mem.nil w
 have H := h
 clear h
 unfold laws_eqUser.f at H
 go_enter Try.func102, Try.ntmps102
 replace H := BN H; obtain ⟨t1562, A7, H⟩ := H
 replace H := GD H
 obtain ⟨c9, H⟩ := H
 subst c9
 replace H := GD H; obtain ⟨c12, H⟩ := H
 obtain ⟨c12b0, c12b1⟩ := BE c12
 clear c12
 replace H := GD H; obtain ⟨c13, H⟩ := H
 obtain ⟨c13b0, c13b1⟩ := BE c13
 clear c13
 replace H := GD H; obtain ⟨c14, H⟩ := H
 obtain ⟨c14b0, c14b1⟩ := BE c14
 clear c14
 replace H := BN H; obtain ⟨t1563, A15, H⟩ := H
 replace H := GD H
 obtain ⟨c17, H⟩ := H
 subst c17
 obtain rfl := Option.some.inj H
 go_wp2_with (first | ((with_reducible refine gN 2 rfl ?_); refine pB 2 135 [.slice A0_0 l0_0.length c0_0, .int .i64 a0_1, .int .i64 a0_2, .int .i64 a0_3, .slice A0_4 l0_4.length c0_4] HM rfl ?_; clear HM; intro gb1560 w3 HM) | ((with_reducible refine gN 3 rfl ?_); refine pB 3 135 [.slice A1_0 l1_0.length c1_0, .int .i64 a1_1, .int .i64 a1_2, .int .i64 a1_3, .slice A1_4 l1_4.length c1_4] HM rfl ?_; clear HM; intro gb1561 w4 HM; obtain ⟨_,_,_,_,_,_,_,_,_,_⟩ := bk5 (HM.bx 0 rfl); obtain ⟨_,_,_,_,_,_,_,_,_,_⟩ := bk5 (HM.bx 1 rfl)) | ((with_reducible refine gC 155 rfl ?_); refine pC (some 9) rfl #[.slice A0_0 l0_0.length c0_0, .slice A1_0 l1_0.length c1_0] rfl Try.func155 (laws_eqOpS.calls k _ _ l0_0 _ _ l1_0 true _ (HM.came HR0_0.out) HC0_0.out (HM.came HR1_0.out) HC1_0.out A7.out) ?_; rintro e w8 ⟨rfl, hR⟩; refine ⟨_, rfl, ?_⟩; replace HM := HM.call hR; clear hR; obtain ⟨_,_,_,_,_,_,_,_,_,_⟩ := bk5 (HM.bx 0 rfl); obtain ⟨_,_,_,_,_,_,_,_,_,_⟩ := bk5 (HM.bx 1 rfl)) | ((with_reducible refine gC 39 rfl ?_); refine pC (some 30) rfl #[.slice A0_4 l0_4.length c0_4, .slice A1_4 l1_4.length c1_4] rfl Try.func39 (laws_eqReplyS.calls k _ _ l0_4 _ _ l1_4 true _ (HM.came HR0_4.out) HC0_4.out (HM.came HR1_4.out) HC1_4.out A15.out) ?_; rintro e w16 ⟨rfl, hR⟩; refine ⟨_, rfl, ?_⟩; replace HM := HM.call hR; clear hR))
 go_ret
 exact ⟨ER, (MD HM).pick []⟩
def laws_eqUserS.l0 : Nat → List (S135) → List (S135) → Int → Option (Bool)
 | 0, _, _, _ => none
 | k + 1, x0, x1, x5 => if x5 < (x0.length : Int) then (if 0 ≤ x5 then (if x5 < (x1.length : Int) then ((laws_eqUser.f k ((rd_T135 x0 x5).f0) ((rd_T135 x0 x5).f1) ((rd_T135 x0 x5).f2) ((rd_T135 x0 x5).f3) ((rd_T135 x0 x5).f4) ((rd_T135 x1 x5).f0) ((rd_T135 x1 x5).f1) ((rd_T135 x1 x5).f2) ((rd_T135 x1 x5).f3) ((rd_T135 x1 x5).f4)).bind fun t1566 => (if t1566 = true then (laws_eqUserS.l0 k x0 x1 (wrap64 (x5 + 1))) else (none))) else (none)) else (none)) else (some true)
def laws_eqUserS.f (k : Nat) (l0 : List (S135)) (l1 : List (S135)) : Option (Bool) := if (l0.length : Int) = (l1.length : Int) then (laws_eqUserS.l0 k l0 l1 0) else (none)
def laws_eqUserS.T6 : Bool × List (List Nat × List Nat) := (true, [([], []), ([], []), ([0, 1], [0, 1]), ([2], [2]), ([], []), ([], []), ([4, 5], [4, 5]), ([6], [6]), ([3, 7], [3, 7]), ([8], [8])])
def laws_eqUserS.B6 : List Nat := [0, 0, 3, 7, 0, 0, 48, 112, 255, 511]
theorem laws_eqUserS.tab6 : rtab .any (opsOf Try.f46 6) = laws_eqUserS.T6 := by kernel_rfl
theorem laws_eqUserS.bits6 : waitsOk laws_eqUserS.T6.2 laws_eqUserS.B6 = true := by kernel_rfl
theorem laws_eqUserS.calls (k : Nat) (A0 : Option Addr) (c0 : Nat) (l0 : List (S135)) (A1 : Option Addr) (c1 : Nat) (l1 : List (S135)) (r : Bool) (w : World) (hr0 : Kd.C k135 w A0 l0.length l0) (hc0 : l0.length ≤ c0) (hr1 : Kd.C k135 w A1 l1.length l1) (hc1 : l1.length ≤ c1) (h : laws_eqUserS.f k l0 l1 = some r) :
  Calls Try.prog 46 #[.slice A0 l0.length c0, .slice A1 l1.length c1] w fun e w' => e = .returned (.bool r) ∧ Mem w [] w' [] := by
 have hu135 := Try.underlying135
 have HR0 := Aside0.mk hr0
 have HC0 := Aside0.mk hc0
 clear hr0 hc0
 have HR1 := Aside0.mk hr1
 have HC1 := Aside0.mk hc1
 clear hr1 hc1
 have HM := Mem.nil w
 have H := h
 clear h
 unfold laws_eqUserS.f at H
 go_enter Try.func46, Try.ntmps46
 replace H := GD H; obtain ⟨c3, H⟩ := H
 obtain ⟨c3b0, c3b1⟩ := BE c3
 have c3b2 : (l0.length == l1.length) = true := by first | simpa using c3 | (simp at c3 ⊢; omega)
 clear c3
 have H' := Aside0.mk H
 clear H
 go_wp2
 go_loopg [5] k (fun kq v5 w' => ∃ (x5_1 : Int), v5 = .int .i64 x5_1 ∧ Aside0 (laws_eqUserS.l0 kq l0 l1 x5_1 = some r) ∧ Aside0 (kq ≤ k) ∧ Mem w [] w' [])
 case atStart => exact ⟨(0), RS, H', ⟨Nat.le_refl _⟩, (MD HM).pick []⟩
 case round =>
  clear H' HM
  obtain ⟨x5_1, rfl, HA, HK1, HM⟩ := hrel
  cases gk with
  | zero => exact absurd HA.out (by simp [laws_eqUserS.l0])
  | succ k1 =>
   have H := HA.out
   clear HA
   simp only [laws_eqUserS.l0] at H
   go_upto_if 14 with (fail)
   replace H := IT H; rcases H with ⟨c4, H⟩ | ⟨c4, H⟩
   ·have c4b0 := decide_eq_true c4
    clear c4
    first|rw [c4b0]|(simp only [i64_w, i32_w]; rw [c4b0])|skip
    try go_wp2
    replace H := GD H; obtain ⟨c5, H⟩ := H
    have c5b0 := decide_eq_true c5
    clear c5
    replace H := GD H; obtain ⟨c6, H⟩ := H
    have c6b0 := decide_eq_true c6
    clear c6
    replace H := BN H; obtain ⟨t1566, A7, H⟩ := H
    have p1564 : 0 ≤ (x5_1 : Int) := of_decide_eq_true AS
    have q1564 : (x5_1 : Int) < (l0.length : Int) := of_decide_eq_true AS
    obtain ⟨ad1564, A1564_0, c1564_0, A1564_4, c1564_4, e1564, hw1564_0, hw1564_1, hw1564_2, hw1564_3, hw1564_4, l1564_0, g1564_0, l1564_4, g1564_4⟩ := at_T135 HR0.out x5_1 p1564 q1564
    cases e1564
    have hx1564_0 := HM.cell hw1564_0
    have hx1564_1 := HM.cell hw1564_1
    have hx1564_2 := HM.cell hw1564_2
    have hx1564_3 := HM.cell hw1564_3
    have hx1564_4 := HM.cell hw1564_4
    replace p1564 := eq_true p1564
    replace q1564 := eq_true q1564
    have p1565 : 0 ≤ (x5_1 : Int) := of_decide_eq_true AS
    have q1565 : (x5_1 : Int) < (l1.length : Int) := of_decide_eq_true AS
    obtain ⟨ad1565, A1565_0, c1565_0, A1565_4, c1565_4, e1565, hw1565_0, hw1565_1, hw1565_2, hw1565_3, hw1565_4, l1565_0, g1565_0, l1565_4, g1565_4⟩ := at_T135 HR1.out x5_1 p1565 q1565
    cases e1565
    have hx1565_0 := HM.cell hw1565_0
    have hx1565_1 := HM.cell hw1565_1
    have hx1565_2 := HM.cell hw1565_2
    have hx1565_3 := HM.cell hw1565_3
    have hx1565_4 := HM.cell hw1565_4
    replace p1565 := eq_true p1565
    replace q1565 := eq_true q1565
    refine RGN 10 [0, 1, 2, 3, 4, 5, 6, 7, 8, 9] (fun a0 b a w' => a = putSel a0 b [(0, 17, .slice (some ad1564) l0.length c0), (1, 18, .int .i64 x5_1), (2, 19, .pointer (some (ad1564.add ((x5_1).toNat * 5)))), (3, 20, .agg #[.slice A1564_0 ((rd_T135 l0 x5_1).f0).length c1564_0, .int .i64 ((rd_T135 l0 x5_1).f1), .int .i64 ((rd_T135 l0 x5_1).f2), .int .i64 ((rd_T135 l0 x5_1).f3), .slice A1564_4 ((rd_T135 l0 x5_1).f4).length c1564_4]), (4, 21, .slice (some ad1565) l1.length c1), (5, 22, .int .i64 x5_1), (6, 23, .pointer (some (ad1565.add ((x5_1).toNat * 5)))), (7, 24, .agg #[.slice A1565_0 ((rd_T135 l1 x5_1).f0).length c1565_0, .int .i64 ((rd_T135 l1 x5_1).f1), .int .i64 ((rd_T135 l1 x5_1).f2), .int .i64 ((rd_T135 l1 x5_1).f3), .slice A1565_4 ((rd_T135 l1 x5_1).f4).length c1565_4]), (8, 25, .bool t1566), (9, 26, .bool (!t1566))] ∧ Mem w [] w' []) laws_eqUserS.tab6 laws_eqUserS.bits6 ?_ ?_ ?_
    ·exact ⟨PS0' rfl _, (HM.drew).pick []⟩
    ·clear HM
     refine SY ?_ ?_
     ·intro b a w ha HM hb hon hoff K hK
      have e0 := PG ha 0
      exact VL (.slice (some ad1564) l0.length c0) (hK.out _ _ ⟨PUT ha 0 hb, HM⟩)
     refine SY ?_ ?_
     ·intro b a w ha HM hb hon hoff K hK
      have e5 := PG ha 5
      exact VL (.int .i64 x5_1) (hK.out _ _ ⟨PUT ha 1 hb, HM⟩)
     refine SY ?_ ?_
     ·intro b a w ha HM hb hon hoff K hK
      have p1564 : 0 ≤ (x5_1 : Int) := of_decide_eq_true AS
      have q1564 : (x5_1 : Int) < (l0.length : Int) := of_decide_eq_true AS
      have hx1564_0 := HM.cell hw1564_0
      have hx1564_1 := HM.cell hw1564_1
      have hx1564_2 := HM.cell hw1564_2
      have hx1564_3 := HM.cell hw1564_3
      have hx1564_4 := HM.cell hw1564_4
      replace p1564 := eq_true p1564
      replace q1564 := eq_true q1564
      have e17 := PE ha 0 hon
      have e18 := PE ha 1 hon
      exact VL (.pointer (some (ad1564.add ((x5_1).toNat * 5)))) (hK.out _ _ ⟨PUT ha 2 hb, HM⟩)
     refine SY ?_ ?_
     ·intro b a w ha HM hb hon hoff K hK
      have p1564 : 0 ≤ (x5_1 : Int) := of_decide_eq_true AS
      have q1564 : (x5_1 : Int) < (l0.length : Int) := of_decide_eq_true AS
      have hx1564_0 := HM.cell hw1564_0
      have hx1564_1 := HM.cell hw1564_1
      have hx1564_2 := HM.cell hw1564_2
      have hx1564_3 := HM.cell hw1564_3
      have hx1564_4 := HM.cell hw1564_4
      replace p1564 := eq_true p1564
      replace q1564 := eq_true q1564
      have e19 := PE ha 2 hon
      exact VL (.agg #[.slice A1564_0 ((rd_T135 l0 x5_1).f0).length c1564_0, .int .i64 ((rd_T135 l0 x5_1).f1), .int .i64 ((rd_T135 l0 x5_1).f2), .int .i64 ((rd_T135 l0 x5_1).f3), .slice A1564_4 ((rd_T135 l0 x5_1).f4).length c1564_4]) (hK.out _ _ ⟨PUT ha 3 hb, HM⟩)
     refine SY ?_ ?_
     ·intro b a w ha HM hb hon hoff K hK
      have e1 := PG ha 1
      exact VL (.slice (some ad1565) l1.length c1) (hK.out _ _ ⟨PUT ha 4 hb, HM⟩)
     refine SY ?_ ?_
     ·intro b a w ha HM hb hon hoff K hK
      have e5 := PG ha 5
      exact VL (.int .i64 x5_1) (hK.out _ _ ⟨PUT ha 5 hb, HM⟩)
     refine SY ?_ ?_
     ·intro b a w ha HM hb hon hoff K hK
      have p1565 : 0 ≤ (x5_1 : Int) := of_decide_eq_true AS
      have q1565 : (x5_1 : Int) < (l1.length : Int) := of_decide_eq_true AS
      have hx1565_0 := HM.cell hw1565_0
      have hx1565_1 := HM.cell hw1565_1
      have hx1565_2 := HM.cell hw1565_2
      have hx1565_3 := HM.cell hw1565_3
      have hx1565_4 := HM.cell hw1565_4
      replace p1565 := eq_true p1565
      replace q1565 := eq_true q1565
      have e21 := PE ha 4 hon
      have e22 := PE ha 5 hon
      exact VL (.pointer (some (ad1565.add ((x5_1).toNat * 5)))) (hK.out _ _ ⟨PUT ha 6 hb, HM⟩)
     refine SY ?_ ?_
     ·intro b a w ha HM hb hon hoff K hK
      have p1565 : 0 ≤ (x5_1 : Int) := of_decide_eq_true AS
      have q1565 : (x5_1 : Int) < (l1.length : Int) := of_decide_eq_true AS
      have hx1565_0 := HM.cell hw1565_0
      have hx1565_1 := HM.cell hw1565_1
      have hx1565_2 := HM.cell hw1565_2
      have hx1565_3 := HM.cell hw1565_3
      have hx1565_4 := HM.cell hw1565_4
      replace p1565 := eq_true p1565
      replace q1565 := eq_true q1565
      have e23 := PE ha 6 hon
      exact VL (.agg #[.slice A1565_0 ((rd_T135 l1 x5_1).f0).length c1565_0, .int .i64 ((rd_T135 l1 x5_1).f1), .int .i64 ((rd_T135 l1 x5_1).f2), .int .i64 ((rd_T135 l1 x5_1).f3), .slice A1565_4 ((rd_T135 l1 x5_1).f4).length c1565_4]) (hK.out _ _ ⟨PUT ha 7 hb, HM⟩)
     refine SY ?_ ?_
     ·intro b a w ha HM hb hon hoff K hK
      have e20 := PE ha 3 hon
      have e24 := PE ha 7 hon
      refine ST (eC (some 25) rfl #[.agg #[.slice A1564_0 ((rd_T135 l0 x5_1).f0).length c1564_0, .int .i64 ((rd_T135 l0 x5_1).f1), .int .i64 ((rd_T135 l0 x5_1).f2), .int .i64 ((rd_T135 l0 x5_1).f3), .slice A1564_4 ((rd_T135 l0 x5_1).f4).length c1564_4], .agg #[.slice A1565_0 ((rd_T135 l1 x5_1).f0).length c1565_0, .int .i64 ((rd_T135 l1 x5_1).f1), .int .i64 ((rd_T135 l1 x5_1).f2), .int .i64 ((rd_T135 l1 x5_1).f3), .slice A1565_4 ((rd_T135 l1 x5_1).f4).length c1565_4]] rfl Try.func102 (laws_eqUser.calls k1 _ _ ((rd_T135 l0 x5_1).f0) ((rd_T135 l0 x5_1).f1) ((rd_T135 l0 x5_1).f2) ((rd_T135 l0 x5_1).f3) _ _ ((rd_T135 l0 x5_1).f4) _ _ ((rd_T135 l1 x5_1).f0) ((rd_T135 l1 x5_1).f1) ((rd_T135 l1 x5_1).f2) ((rd_T135 l1 x5_1).f3) _ _ ((rd_T135 l1 x5_1).f4) t1566 _ (HM.came g1564_0) l1564_0 (HM.came g1564_4) l1564_4 (HM.came g1565_0) l1565_0 (HM.came g1565_4) l1565_4 A7.out) ?_ (hargs := by (simp only [List.map_toArray, List.map_cons, List.map_nil, evc, eval_of e20, eval_of e24]) <;> rfl))
      rintro e w9 ⟨rfl, hR⟩
      refine ⟨_, rfl, ?_⟩
      replace HM := HM.call hR
      clear hR
      exact hK.out _ _ ⟨PUT ha 8 hb, (HM).pick []⟩
     refine SY ?_ ?_
     ·intro b a w ha HM hb hon hoff K hK
      have e25 := PE ha 8 hon
      exact VL (.bool (!t1566)) (hK.out _ _ ⟨PUT ha 9 hb, HM⟩)
     exact steps_nil
    rintro _ w10 ⟨rfl, HM⟩
    simp only [putSel, if_true, Act.put, List.setIfInBounds_toArray, List.set_cons_zero, List.set_cons_succ, gt_iff_lt, ge_iff_le]
    replace H := GD H
    obtain ⟨c11, H⟩ := H
    subst c11
    have H' := Aside0.mk H
    clear H
    go_wp2
    go_roundg k1
    case measure => have := HK1.out; omega
    case rel => exact ⟨(wrap64 (x5_1 + 1)), RS, H', ⟨by have := HK1.out; omega⟩, (MD HM).pick []⟩
   ·have c4b0 := decide_eq_false c4
    clear c4
    first|rw [c4b0]|(simp only [i64_w, i32_w]; rw [c4b0])|skip
    obtain rfl := Option.some.inj H
    go_wp2
    go_ret
    exact ⟨ER, (MD HM).pick []⟩
end Go.Proofs.Ythnedklbobbkcaa.G

namespace Go.Proofs.Ythnedklbobbkcaa.G
open Go.RowKit Go.Proofs.YthnedklbobbkcaaW.PrintWords Go.Proofs.YthnedklbobbkcaaW.PrintLast Go.Proofs.YthnedklbobbkcaaW.PrintMore Go.Proofs.Ythnedklbobbkcaa.Sh
attribute [local go_sem] max2_int min2_int max_two min_two max_three min_three max_four min_four
set_option linter.unusedVariables false
set_option linter.unusedSimpArgs false
def laws_eqIntS.l0 : Nat → List Int → List Int → Int → Option (Bool)
 | 0, _, _, _ => none
 | k + 1, x0, x1, x5 => if x5 < (x0.length : Int) then (if 0 ≤ x5 then (if x5 < (x1.length : Int) then (if (rd x0 x5) = (rd x1 x5) then (laws_eqIntS.l0 k x0 x1 (wrap64 (x5 + 1))) else (none)) else (none)) else (none)) else (some true)
def laws_eqIntS.f (k : Nat) (l0 : List Int) (l1 : List Int) : Option (Bool) := if (l0.length : Int) = (l1.length : Int) then (laws_eqIntS.l0 k l0 l1 0) else (none)
theorem laws_eqIntS.calls (k : Nat) (A0 : Option Addr) (c0 : Nat) (l0 : List Int) (A1 : Option Addr) (c1 : Nat) (l1 : List Int) (r : Bool) (w : World) (hr0 : Kd.C (Kd.int .i64) w A0 l0.length l0) (hc0 : l0.length ≤ c0) (hr1 : Kd.C (Kd.int .i64) w A1 l1.length l1) (hc1 : l1.length ≤ c1) (h : laws_eqIntS.f k l0 l1 = some r) :
  Calls Try.prog 32 #[.slice A0 l0.length c0, .slice A1 l1.length c1] w fun e w' => e = .returned (.bool r) ∧ Drawn0 w w' := by
 have HR0 := Aside0.mk hr0
 have HC0 := Aside0.mk hc0
 clear hr0 hc0
 have HR1 := Aside0.mk hr1
 have HC1 := Aside0.mk hc1
 clear hr1 hc1
 have H : (if (l0.length : Int) = (l1.length : Int) then (laws_eqIntS.l0 k l0 l1 0) else (none)) = some r := h
 clear h
 by_cases c3 : (l0.length : Int) = (l1.length : Int)
 ·rw [if_pos c3] at H
  have c3b0 : ((l0.length : Int) == (l1.length : Int)) = true := beq_iff_eq.mpr c3
  have c3b1 : ((l0.length : Int) != (l1.length : Int)) = false := bne_eq_false_iff_eq.mpr c3
  have c3b2 : (l0.length == l1.length) = true := by first | simpa using c3 | (simp at c3 ⊢; omega)
  clear c3
  have H' := Aside0.mk H
  clear H
  go_enter Try.func32, Try.ntmps32
  go_wp2
  repeat (go_quiet (fail); try go_wp2)
  go_loopg [5] k (fun kq v5 w' => ∃ (x5_1 : Int), v5 = .int .i64 x5_1 ∧ Aside0 (laws_eqIntS.l0 kq l0 l1 x5_1 = some r) ∧ Aside0 (kq ≤ k) ∧ Drawn0 w w')
  case atStart => exact ⟨(0), RS, H', ⟨Nat.le_refl _⟩, DR⟩
  case round =>
   clear H'
   try clear c1
   try clear p2
   try clear c3
   try clear c3b0
   try clear c3b1
   try clear c3b2
   obtain ⟨x5_1, rfl, HA, HK1, ⟨m1, rfl⟩⟩ := hrel
   cases gk with
   | zero => exact absurd HA.out (by simp [laws_eqIntS.l0])
   | succ k1 =>
    have H := HA.out
    clear HA
    simp only [laws_eqIntS.l0] at H
    by_cases c4 : x5_1 < (l0.length : Int)
    ·rw [if_pos c4] at H
     have c4b0 : decide (x5_1 < (l0.length : Int)) = true := decide_eq_true c4
     clear c4
     by_cases c5 : 0 ≤ x5_1
     ·rw [if_pos c5] at H
      have c5b0 : decide (0 ≤ x5_1) = true := decide_eq_true c5
      clear c5
      by_cases c6 : x5_1 < (l1.length : Int)
      ·rw [if_pos c6] at H
       have c6b0 : decide (x5_1 < (l1.length : Int)) = true := decide_eq_true c6
       clear c6
       by_cases c7 : (rd l0 x5_1) = (rd l1 x5_1)
       ·rw [if_pos c7] at H
        have c7b0 : ((rd l0 x5_1) == (rd l1 x5_1)) = true := beq_iff_eq.mpr c7
        have c7b1 : ((rd l0 x5_1) != (rd l1 x5_1)) = false := bne_eq_false_iff_eq.mpr c7
        clear c7
        have H' := Aside0.mk H
        clear H
        have p1550 : 0 ≤ (x5_1 : Int) := of_decide_eq_true AS
        have q1550 : x5_1 < (l0.length : Int) := of_decide_eq_true AS
        obtain ⟨ad1550, e1550, hx1550_0⟩ := Kd.at_int HR0.out x5_1 p1550 q1550
        cases e1550
        replace p1550 := eq_true p1550
        replace q1550 := eq_true q1550
        have p1551 : 0 ≤ (x5_1 : Int) := of_decide_eq_true AS
        have q1551 : x5_1 < (l1.length : Int) := of_decide_eq_true AS
        obtain ⟨ad1551, e1551, hx1551_0⟩ := Kd.at_int HR1.out x5_1 p1551 q1551
        cases e1551
        replace p1551 := eq_true p1551
        replace q1551 := eq_true q1551
        go_wp2
        repeat (go_quiet (fail); try go_wp2)
        go_roundg k1
        case measure => have := HK1.out; omega
        case rel => exact ⟨(wrap64 (x5_1 + 1)), RS, H', ⟨by have := HK1.out; omega⟩, DR⟩
       ·rw [if_neg c7] at H
        exact absurd H (by simp)
      ·rw [if_neg c6] at H
       exact absurd H (by simp)
     ·rw [if_neg c5] at H
      exact absurd H (by simp)
    ·rw [if_neg c4] at H
     have c4b0 : decide (x5_1 < (l0.length : Int)) = false := decide_eq_false c4
     clear c4
     obtain rfl := Option.some.inj H
     go_wp2
     repeat (go_quiet (fail); try go_wp2)
     go_ret
     exact ⟨by first | rfl | (simp; done) | (simp [*]; done), DR⟩
 ·rw [if_neg c3] at H
  exact absurd H (by simp)
end Go.Proofs.Ythnedklbobbkcaa.G

namespace Go.Proofs.Ythnedklbobbkcaa.G
open Go.RowKit Go.Proofs.YthnedklbobbkcaaW.PrintWords Go.Proofs.YthnedklbobbkcaaW.PrintLast Go.Proofs.YthnedklbobbkcaaW.PrintMore Go.Proofs.Ythnedklbobbkcaa.Sh
attribute [local go_sem] max2_int min2_int max_two min_two max_three min_three max_four min_four
set_option linter.unusedVariables false
set_option linter.unusedSimpArgs false
open Go.Proofs.Ythnedklbobbkcaa.Mm
def laws_eqItem.f (a0_0 : ByteArray) (a0_1 : ByteArray) (a0_2 : Int) (a1_0 : ByteArray) (a1_1 : ByteArray) (a1_2 : Int) : Option (Bool) := if a0_0.toList = a1_0.toList then (if a0_1.toList = a1_1.toList then (if a0_2 = a1_2 then (some true) else (none)) else (none)) else (none)
theorem laws_eqItem.calls (a0_0 : ByteArray) (a0_1 : ByteArray) (a0_2 : Int) (a1_0 : ByteArray) (a1_1 : ByteArray) (a1_2 : Int) (r : Bool) (w : World)  (h : laws_eqItem.f a0_0 a0_1 a0_2 a1_0 a1_1 a1_2 = some r) :
  Calls Try.prog 180 #[.agg #[.string a0_0, .string a0_1, .int .i64 a0_2], .agg #[.string a1_0, .string a1_1, .int .i64 a1_2]] w fun e w' => e = .returned (.bool r) ∧ Mem w [] w' [] := by
 have hu122 := Try.underlying122
 have HM := Mem.nil w
 have H := h
 clear h
 unfold laws_eqItem.f at H
 go_enter Try.func180, Try.ntmps180
 replace H := GD H; obtain ⟨c7, H⟩ := H
 obtain ⟨c7b0, c7b1⟩ := BE c7
 clear c7
 replace H := GD H; obtain ⟨c8, H⟩ := H
 obtain ⟨c8b0, c8b1⟩ := BE c8
 clear c8
 replace H := GD H; obtain ⟨c9, H⟩ := H
 obtain ⟨c9b0, c9b1⟩ := BE c9
 clear c9
 obtain rfl := Option.some.inj H
 go_wp2_with (first | ((with_reducible refine gN 2 rfl ?_); refine pB 2 122 [.string a0_0, .string a0_1, .int .i64 a0_2] HM rfl ?_; clear HM; intro gb1567 w3 HM) | ((with_reducible refine gN 3 rfl ?_); refine pB 3 122 [.string a1_0, .string a1_1, .int .i64 a1_2] HM rfl ?_; clear HM; intro gb1568 w4 HM; obtain ⟨_,_,_,_,_,_⟩ := bk3 (HM.bx 0 rfl); obtain ⟨_,_,_,_,_,_⟩ := bk3 (HM.bx 1 rfl)))
 go_ret
 exact ⟨ER, (MD HM).pick []⟩
def laws_eqItemS.l0 : Nat → List (S122) → List (S122) → Int → Option (Bool)
 | 0, _, _, _ => none
 | k + 1, x0, x1, x5 => if x5 < (x0.length : Int) then (if 0 ≤ x5 then (if x5 < (x1.length : Int) then ((laws_eqItem.f ((rd_T122 x0 x5).f0) ((rd_T122 x0 x5).f1) ((rd_T122 x0 x5).f2) ((rd_T122 x1 x5).f0) ((rd_T122 x1 x5).f1) ((rd_T122 x1 x5).f2)).bind fun t1571 => (if t1571 = true then (laws_eqItemS.l0 k x0 x1 (wrap64 (x5 + 1))) else (none))) else (none)) else (none)) else (some true)
def laws_eqItemS.f (k : Nat) (l0 : List (S122)) (l1 : List (S122)) : Option (Bool) := if (l0.length : Int) = (l1.length : Int) then (laws_eqItemS.l0 k l0 l1 0) else (none)
def laws_eqItemS.T6 : Bool × List (List Nat × List Nat) := (true, [([], []), ([], []), ([0, 1], [0, 1]), ([2], [2]), ([], []), ([], []), ([4, 5], [4, 5]), ([6], [6]), ([3, 7], [3, 7]), ([8], [8])])
def laws_eqItemS.B6 : List Nat := [0, 0, 3, 7, 0, 0, 48, 112, 255, 511]
theorem laws_eqItemS.tab6 : rtab .any (opsOf Try.f139 6) = laws_eqItemS.T6 := by kernel_rfl
theorem laws_eqItemS.bits6 : waitsOk laws_eqItemS.T6.2 laws_eqItemS.B6 = true := by kernel_rfl
theorem laws_eqItemS.calls (k : Nat) (A0 : Option Addr) (c0 : Nat) (l0 : List (S122)) (A1 : Option Addr) (c1 : Nat) (l1 : List (S122)) (r : Bool) (w : World) (hr0 : Kd.C k122 w A0 l0.length l0) (hc0 : l0.length ≤ c0) (hr1 : Kd.C k122 w A1 l1.length l1) (hc1 : l1.length ≤ c1) (h : laws_eqItemS.f k l0 l1 = some r) :
  Calls Try.prog 139 #[.slice A0 l0.length c0, .slice A1 l1.length c1] w fun e w' => e = .returned (.bool r) ∧ Mem w [] w' [] := by
 have hu122 := Try.underlying122
 have HR0 := Aside0.mk hr0
 have HC0 := Aside0.mk hc0
 clear hr0 hc0
 have HR1 := Aside0.mk hr1
 have HC1 := Aside0.mk hc1
 clear hr1 hc1
 have HM := Mem.nil w
 have H := h
 clear h
 unfold laws_eqItemS.f at H
 go_enter Try.func139, Try.ntmps139
 replace H := GD H; obtain ⟨c3, H⟩ := H
 obtain ⟨c3b0, c3b1⟩ := BE c3
 have c3b2 : (l0.length == l1.length) = true := by first | simpa using c3 | (simp at c3 ⊢; omega)
 clear c3
 have H' := Aside0.mk H
 clear H
 go_wp2
 go_loopg [5] k (fun kq v5 w' => ∃ (x5_1 : Int), v5 = .int .i64 x5_1 ∧ Aside0 (laws_eqItemS.l0 kq l0 l1 x5_1 = some r) ∧ Aside0 (kq ≤ k) ∧ Mem w [] w' [])
 case atStart => exact ⟨(0), RS, H', ⟨Nat.le_refl _⟩, (MD HM).pick []⟩
 case round =>
  clear H' HM
  obtain ⟨x5_1, rfl, HA, HK1, HM⟩ := hrel
  cases gk with
  | zero => exact absurd HA.out (by simp [laws_eqItemS.l0])
  | succ k1 =>
   have H := HA.out
   clear HA
   simp only [laws_eqItemS.l0] at H
   go_upto_if 14 with (fail)
   replace H := IT H; rcases H with ⟨c4, H⟩ | ⟨c4, H⟩
   ·have c4b0 := decide_eq_true c4
    clear c4
    first|rw [c4b0]|(simp only [i64_w, i32_w]; rw [c4b0])|skip
    try go_wp2
    replace H := GD H; obtain ⟨c5, H⟩ := H
    have c5b0 := decide_eq_true c5
    clear c5
    replace H := GD H; obtain ⟨c6, H⟩ := H
    have c6b0 := decide_eq_true c6
    clear c6
    replace H := BN H; obtain ⟨t1571, A7, H⟩ := H
    have p1569 : 0 ≤ (x5_1 : Int) := of_decide_eq_true AS
    have q1569 : (x5_1 : Int) < (l0.length : Int) := of_decide_eq_true AS
    obtain ⟨ad1569, e1569, hx1569_0, hx1569_1, hx1569_2⟩ := at_T122 (HM.came HR0.out) x5_1 p1569 q1569
    cases e1569
    replace p1569 := eq_true p1569
    replace q1569 := eq_true q1569
    have p1570 : 0 ≤ (x5_1 : Int) := of_decide_eq_true AS
    have q1570 : (x5_1 : Int) < (l1.length : Int) := of_decide_eq_true AS
    obtain ⟨ad1570, e1570, hx1570_0, hx1570_1, hx1570_2⟩ := at_T122 (HM.came HR1.out) x5_1 p1570 q1570
    cases e1570
    replace p1570 := eq_true p1570
    replace q1570 := eq_true q1570
    refine RGN 10 [0, 1, 2, 3, 4, 5, 6, 7, 8, 9] (fun a0 b a w' => a = putSel a0 b [(0, 17, .slice (some ad1569) l0.length c0), (1, 18, .int .i64 x5_1), (2, 19, .pointer (some (ad1569.add ((x5_1).toNat * 3)))), (3, 20, .agg #[.string ((rd_T122 l0 x5_1).f0), .string ((rd_T122 l0 x5_1).f1), .int .i64 ((rd_T122 l0 x5_1).f2)]), (4, 21, .slice (some ad1570) l1.length c1), (5, 22, .int .i64 x5_1), (6, 23, .pointer (some (ad1570.add ((x5_1).toNat * 3)))), (7, 24, .agg #[.string ((rd_T122 l1 x5_1).f0), .string ((rd_T122 l1 x5_1).f1), .int .i64 ((rd_T122 l1 x5_1).f2)]), (8, 25, .bool t1571), (9, 26, .bool (!t1571))] ∧ Mem w [] w' []) laws_eqItemS.tab6 laws_eqItemS.bits6 ?_ ?_ ?_
    ·exact ⟨PS0' rfl _, (HM.drew).pick []⟩
    ·clear HM
     refine SY ?_ ?_
     ·intro b a w ha HM hb hon hoff K hK
      have e0 := PG ha 0
      exact VL (.slice (some ad1569) l0.length c0) (hK.out _ _ ⟨PUT ha 0 hb, HM⟩)
     refine SY ?_ ?_
     ·intro b a w ha HM hb hon hoff K hK
      have e5 := PG ha 5
      exact VL (.int .i64 x5_1) (hK.out _ _ ⟨PUT ha 1 hb, HM⟩)
     refine SY ?_ ?_
     ·intro b a w ha HM hb hon hoff K hK
      have p1569 : 0 ≤ (x5_1 : Int) := of_decide_eq_true AS
      have q1569 : (x5_1 : Int) < (l0.length : Int) := of_decide_eq_true AS
      obtain ⟨ad1569, e1569, hx1569_0, hx1569_1, hx1569_2⟩ := at_T122 (HM.came HR0.out) x5_1 p1569 q1569
      obtain rfl := Option.some.inj e1569
      replace p1569 := eq_true p1569
      replace q1569 := eq_true q1569
      have e17 := PE ha 0 hon
      have e18 := PE ha 1 hon
      exact VL (.pointer (some (ad1569.add ((x5_1).toNat * 3)))) (hK.out _ _ ⟨PUT ha 2 hb, HM⟩)
     refine SY ?_ ?_
     ·intro b a w ha HM hb hon hoff K hK
      have p1569 : 0 ≤ (x5_1 : Int) := of_decide_eq_true AS
      have q1569 : (x5_1 : Int) < (l0.length : Int) := of_decide_eq_true AS
      obtain ⟨ad1569, e1569, hx1569_0, hx1569_1, hx1569_2⟩ := at_T122 (HM.came HR0.out) x5_1 p1569 q1569
      obtain rfl := Option.some.inj e1569
      replace p1569 := eq_true p1569
      replace q1569 := eq_true q1569
      have e19 := PE ha 2 hon
      exact VL (.agg #[.string ((rd_T122 l0 x5_1).f0), .string ((rd_T122 l0 x5_1).f1), .int .i64 ((rd_T122 l0 x5_1).f2)]) (hK.out _ _ ⟨PUT ha 3 hb, HM⟩)
     refine SY ?_ ?_
     ·intro b a w ha HM hb hon hoff K hK
      have e1 := PG ha 1
      exact VL (.slice (some ad1570) l1.length c1) (hK.out _ _ ⟨PUT ha 4 hb, HM⟩)
     refine SY ?_ ?_
     ·intro b a w ha HM hb hon hoff K hK
      have e5 := PG ha 5
      exact VL (.int .i64 x5_1) (hK.out _ _ ⟨PUT ha 5 hb, HM⟩)
     refine SY ?_ ?_
     ·intro b a w ha HM hb hon hoff K hK
      have p1570 : 0 ≤ (x5_1 : Int) := of_decide_eq_true AS
      have q1570 : (x5_1 : Int) < (l1.length : Int) := of_decide_eq_true AS
      obtain ⟨ad1570, e1570, hx1570_0, hx1570_1, hx1570_2⟩ := at_T122 (HM.came HR1.out) x5_1 p1570 q1570
      obtain rfl := Option.some.inj e1570
      replace p1570 := eq_true p1570
      replace q1570 := eq_true q1570
      have e21 := PE ha 4 hon
      have e22 := PE ha 5 hon
      exact VL (.pointer (some (ad1570.add ((x5_1).toNat * 3)))) (hK.out _ _ ⟨PUT ha 6 hb, HM⟩)
     refine SY ?_ ?_
     ·intro b a w ha HM hb hon hoff K hK
      have p1570 : 0 ≤ (x5_1 : Int) := of_decide_eq_true AS
      have q1570 : (x5_1 : Int) < (l1.length : Int) := of_decide_eq_true AS
      obtain ⟨ad1570, e1570, hx1570_0, hx1570_1, hx1570_2⟩ := at_T122 (HM.came HR1.out) x5_1 p1570 q1570
      obtain rfl := Option.some.inj e1570
      replace p1570 := eq_true p1570
      replace q1570 := eq_true q1570
      have e23 := PE ha 6 hon
      exact VL (.agg #[.string ((rd_T122 l1 x5_1).f0), .string ((rd_T122 l1 x5_1).f1), .int .i64 ((rd_T122 l1 x5_1).f2)]) (hK.out _ _ ⟨PUT ha 7 hb, HM⟩)
     refine SY ?_ ?_
     ·intro b a w ha HM hb hon hoff K hK
      have e20 := PE ha 3 hon
      have e24 := PE ha 7 hon
      refine ST (eC (some 25) rfl #[.agg #[.string ((rd_T122 l0 x5_1).f0), .string ((rd_T122 l0 x5_1).f1), .int .i64 ((rd_T122 l0 x5_1).f2)], .agg #[.string ((rd_T122 l1 x5_1).f0), .string ((rd_T122 l1 x5_1).f1), .int .i64 ((rd_T122 l1 x5_1).f2)]] rfl Try.func180 (laws_eqItem.calls ((rd_T122 l0 x5_1).f0) ((rd_T122 l0 x5_1).f1) ((rd_T122 l0 x5_1).f2) ((rd_T122 l1 x5_1).f0) ((rd_T122 l1 x5_1).f1) ((rd_T122 l1 x5_1).f2) t1571 _ A7.out) ?_ (hargs := by (simp only [List.map_toArray, List.map_cons, List.map_nil, evc, eval_of e20, eval_of e24]) <;> rfl))
      rintro e w9 ⟨rfl, hR⟩
      refine ⟨_, rfl, ?_⟩
      replace HM := HM.call hR
      clear hR
      exact hK.out _ _ ⟨PUT ha 8 hb, (HM).pick []⟩
     refine SY ?_ ?_
     ·intro b a w ha HM hb hon hoff K hK
      have e25 := PE ha 8 hon
      exact VL (.bool (!t1571)) (hK.out _ _ ⟨PUT ha 9 hb, HM⟩)
     exact steps_nil
    rintro _ w10 ⟨rfl, HM⟩
    simp only [putSel, if_true, Act.put, List.setIfInBounds_toArray, List.set_cons_zero, List.set_cons_succ, gt_iff_lt, ge_iff_le]
    replace H := GD H
    obtain ⟨c11, H⟩ := H
    subst c11
    have H' := Aside0.mk H
    clear H
    go_wp2
    go_roundg k1
    case measure => have := HK1.out; omega
    case rel => exact ⟨(wrap64 (x5_1 + 1)), RS, H', ⟨by have := HK1.out; omega⟩, (MD HM).pick []⟩
   ·have c4b0 := decide_eq_false c4
    clear c4
    first|rw [c4b0]|(simp only [i64_w, i32_w]; rw [c4b0])|skip
    obtain rfl := Option.some.inj H
    go_wp2
    go_ret
    exact ⟨ER, (MD HM).pick []⟩
def laws_eqThree.f (k : Nat) (a0_0 : Int) (a0_1 : Int) (l0_2 : List (S122)) (l0_3 : List (S122)) (l0_4 : List Int) (a1_0 : Int) (a1_1 : Int) (l1_2 : List (S122)) (l1_3 : List (S122)) (l1_4 : List Int) : Option (Bool) := if a0_0 = a1_0 then (if a0_1 = a1_1 then ((laws_eqItemS.f k l0_2 l1_2).bind fun t1574 => (if t1574 = true then ((laws_eqItemS.f k l0_3 l1_3).bind fun t1575 => (if t1575 = true then ((laws_eqIntS.f k l0_4 l1_4).bind fun t1576 => (if t1576 = true then (some true) else (none))) else (none))) else (none))) else (none)) else (none)
theorem laws_eqThree.calls (k : Nat) (a0_0 : Int) (a0_1 : Int) (A0_2 : Option Addr) (c0_2 : Nat) (l0_2 : List (S122)) (A0_3 : Option Addr) (c0_3 : Nat) (l0_3 : List (S122)) (A0_4 : Option Addr) (c0_4 : Nat) (l0_4 : List Int) (a1_0 : Int) (a1_1 : Int) (A1_2 : Option Addr) (c1_2 : Nat) (l1_2 : List (S122)) (A1_3 : Option Addr) (c1_3 : Nat) (l1_3 : List (S122)) (A1_4 : Option Addr) (c1_4 : Nat) (l1_4 : List Int) (r : Bool) (w : World) (hr0_2 : Kd.C k122 w A0_2 l0_2.length l0_2) (hc0_2 : l0_2.length ≤ c0_2) (hr0_3 : Kd.C k122 w A0_3 l0_3.length l0_3) (hc0_3 : l0_3.length ≤ c0_3) (hr0_4 : Kd.C (Kd.int .i64) w A0_4 l0_4.length l0_4) (hc0_4 : l0_4.length ≤ c0_4) (hr1_2 : Kd.C k122 w A1_2 l1_2.length l1_2) (hc1_2 : l1_2.length ≤ c1_2) (hr1_3 : Kd.C k122 w A1_3 l1_3.length l1_3) (hc1_3 : l1_3.length ≤ c1_3) (hr1_4 : Kd.C (Kd.int .i64) w A1_4 l1_4.length l1_4) (hc1_4 : l1_4.length ≤ c1_4) (h : laws_eqThree.f k a0_0 a0_1 l0_2 l0_3 l0_4 a1_0 a1_1 l1_2 l1_3 l1_4 = some r) :
  Calls Try.prog 84 #[.agg #[.int .i64 a0_0, .int .i64 a0_1, .slice A0_2 l0_2.length c0_2, .slice A0_3 l0_3.length c0_3, .slice A0_4 l0_4.length c0_4], .agg #[.int .i64 a1_0, .int .i64 a1_1, .slice A1_2 l1_2.length c1_2, .slice A1_3 l1_3.length c1_3, .slice A1_4 l1_4.length c1_4]] w fun e w' => e = .returned (.bool r) ∧ Mem w [] w' [] := by
 have hu32 := Try.underlying32
 have HR0_2 := Aside0.mk hr0_2
 have HC0_2 := Aside0.mk hc0_2
 clear hr0_2 hc0_2
 have HR0_3 := Aside0.mk hr0_3
 have HC0_3 := Aside0.mk hc0_3
 clear hr0_3 hc0_3
 have HR0_4 := Aside0.mk hr0_4
 have HC0_4 := Aside0.mk hc0_4
 clear hr0_4 hc0_4
 have HR1_2 := Aside0.mk hr1_2
 have HC1_2 := Aside0.mk hc1_2
 clear hr1_2 hc1_2
 have HR1_3 := Aside0.mk hr1_3
 have HC1_3 := Aside0.mk hc1_3
 clear hr1_3 hc1_3
 have HR1_4 := Aside0.mk hr1_4
 have HC1_4 := Aside0.mk hc1_4
 clear hr1_4 hc1_4
 have HM := Mem.nil w
 have H := h
 clear h
 unfold laws_eqThree.f at H
 go_enter Try.func84, Try.ntmps84
 replace H := GD H; obtain ⟨c7, H⟩ := H
 obtain ⟨c7b0, c7b1⟩ := BE c7
 clear c7
 replace H := GD H; obtain ⟨c8, H⟩ := H
 obtain ⟨c8b0, c8b1⟩ := BE c8
 clear c8
 replace H := BN H; obtain ⟨t1574, A9, H⟩ := H
 replace H := GD H
 obtain ⟨c11, H⟩ := H
 subst c11
 replace H := BN H; obtain ⟨t1575, A14, H⟩ := H
 replace H := GD H
 obtain ⟨c16, H⟩ := H
 subst c16
 replace H := BN H; obtain ⟨t1576, A19, H⟩ := H
 replace H := GD H
 obtain ⟨c21, H⟩ := H
 subst c21
 obtain rfl := Option.some.inj H
 go_wp2_with (first | ((with_reducible refine gN 2 rfl ?_); refine pB 2 32 [.int .i64 a0_0, .int .i64 a0_1, .slice A0_2 l0_2.length c0_2, .slice A0_3 l0_3.length c0_3, .slice A0_4 l0_4.length c0_4] HM rfl ?_; clear HM; intro gb1572 w3 HM) | ((with_reducible refine gN 3 rfl ?_); refine pB 3 32 [.int .i64 a1_0, .int .i64 a1_1, .slice A1_2 l1_2.length c1_2, .slice A1_3 l1_3.length c1_3, .slice A1_4 l1_4.length c1_4] HM rfl ?_; clear HM; intro gb1573 w4 HM; obtain ⟨_,_,_,_,_,_,_,_,_,_⟩ := bk5 (HM.bx 0 rfl); obtain ⟨_,_,_,_,_,_,_,_,_,_⟩ := bk5 (HM.bx 1 rfl)) | ((with_reducible refine gC 139 rfl ?_); refine pC (some 19) rfl #[.slice A0_2 l0_2.length c0_2, .slice A1_2 l1_2.length c1_2] rfl Try.func139 (laws_eqItemS.calls k _ _ l0_2 _ _ l1_2 true _ (HM.came HR0_2.out) HC0_2.out (HM.came HR1_2.out) HC1_2.out A9.out) ?_; rintro e w10 ⟨rfl, hR⟩; refine ⟨_, rfl, ?_⟩; replace HM := HM.call hR; clear hR; obtain ⟨_,_,_,_,_,_,_,_,_,_⟩ := bk5 (HM.bx 0 rfl); obtain ⟨_,_,_,_,_,_,_,_,_,_⟩ := bk5 (HM.bx 1 rfl)) | ((with_reducible refine gC 139 rfl ?_); refine pC (some 25) rfl #[.slice A0_3 l0_3.length c0_3, .slice A1_3 l1_3.length c1_3] rfl Try.func139 (laws_eqItemS.calls k _ _ l0_3 _ _ l1_3 true _ (HM.came HR0_3.out) HC0_3.out (HM.came HR1_3.out) HC1_3.out A14.out) ?_; rintro e w15 ⟨rfl, hR⟩; refine ⟨_, rfl, ?_⟩; replace HM := HM.call hR; clear hR; obtain ⟨_,_,_,_,_,_,_,_,_,_⟩ := bk5 (HM.bx 0 rfl); obtain ⟨_,_,_,_,_,_,_,_,_,_⟩ := bk5 (HM.bx 1 rfl)) | ((with_reducible refine gC 32 rfl ?_); refine pC (some 31) rfl #[.slice A0_4 l0_4.length c0_4, .slice A1_4 l1_4.length c1_4] rfl Try.func32 (laws_eqIntS.calls k _ _ l0_4 _ _ l1_4 true _ (HM.came HR0_4.out) HC0_4.out (HM.came HR1_4.out) HC1_4.out A19.out) ?_; rintro e w20 ⟨rfl, hd⟩; refine ⟨_, rfl, ?_⟩; replace HM := HM.drawn hd; clear hd))
 go_ret
 exact ⟨ER, (MD HM).pick []⟩
def laws_eqGone.f (a0_0 : Int) (a0_1 : Int) (a1_0 : Int) (a1_1 : Int) : Option (Bool) := if a0_0 = a1_0 then (if a0_1 = a1_1 then (some true) else (none)) else (none)
theorem laws_eqGone.calls (a0_0 : Int) (a0_1 : Int) (a1_0 : Int) (a1_1 : Int) (r : Bool) (w : World)  (h : laws_eqGone.f a0_0 a0_1 a1_0 a1_1 = some r) :
  Calls Try.prog 205 #[.agg #[.int .i64 a0_0, .int .i64 a0_1], .agg #[.int .i64 a1_0, .int .i64 a1_1]] w fun e w' => e = .returned (.bool r) ∧ Mem w [] w' [] := by
 have hu242 := Try.underlying242
 have HM := Mem.nil w
 have H := h
 clear h
 unfold laws_eqGone.f at H
 go_enter Try.func205, Try.ntmps205
 replace H := GD H; obtain ⟨c7, H⟩ := H
 obtain ⟨c7b0, c7b1⟩ := BE c7
 clear c7
 replace H := GD H; obtain ⟨c8, H⟩ := H
 obtain ⟨c8b0, c8b1⟩ := BE c8
 clear c8
 obtain rfl := Option.some.inj H
 go_wp2_with (first | ((with_reducible refine gN 2 rfl ?_); refine pB 2 242 [.int .i64 a0_0, .int .i64 a0_1] HM rfl ?_; clear HM; intro gb1577 w3 HM) | ((with_reducible refine gN 3 rfl ?_); refine pB 3 242 [.int .i64 a1_0, .int .i64 a1_1] HM rfl ?_; clear HM; intro gb1578 w4 HM; obtain ⟨_,_,_,_⟩ := bk2 (HM.bx 0 rfl); obtain ⟨_,_,_,_⟩ := bk2 (HM.bx 1 rfl)))
 go_ret
 exact ⟨ER, (MD HM).pick []⟩
def laws_eqGoneS.l0 : Nat → List (S242) → List (S242) → Int → Option (Bool)
 | 0, _, _, _ => none
 | k + 1, x0, x1, x5 => if x5 < (x0.length : Int) then (if 0 ≤ x5 then (if x5 < (x1.length : Int) then ((laws_eqGone.f ((rd_T242 x0 x5).f0) ((rd_T242 x0 x5).f1) ((rd_T242 x1 x5).f0) ((rd_T242 x1 x5).f1)).bind fun t1581 => (if t1581 = true then (laws_eqGoneS.l0 k x0 x1 (wrap64 (x5 + 1))) else (none))) else (none)) else (none)) else (some true)
def laws_eqGoneS.f (k : Nat) (l0 : List (S242)) (l1 : List (S242)) : Option (Bool) := if (l0.length : Int) = (l1.length : Int) then (laws_eqGoneS.l0 k l0 l1 0) else (none)
def laws_eqGoneS.T6 : Bool × List (List Nat × List Nat) := (true, [([], []), ([], []), ([0, 1], [0, 1]), ([2], [2]), ([], []), ([], []), ([4, 5], [4, 5]), ([6], [6]), ([3, 7], [3, 7]), ([8], [8])])
def laws_eqGoneS.B6 : List Nat := [0, 0, 3, 7, 0, 0, 48, 112, 255, 511]
theorem laws_eqGoneS.tab6 : rtab .any (opsOf Try.f181 6) = laws_eqGoneS.T6 := by kernel_rfl
theorem laws_eqGoneS.bits6 : waitsOk laws_eqGoneS.T6.2 laws_eqGoneS.B6 = true := by kernel_rfl
theorem laws_eqGoneS.calls (k : Nat) (A0 : Option Addr) (c0 : Nat) (l0 : List (S242)) (A1 : Option Addr) (c1 : Nat) (l1 : List (S242)) (r : Bool) (w : World) (hr0 : Kd.C k242 w A0 l0.length l0) (hc0 : l0.length ≤ c0) (hr1 : Kd.C k242 w A1 l1.length l1) (hc1 : l1.length ≤ c1) (h : laws_eqGoneS.f k l0 l1 = some r) :
  Calls Try.prog 181 #[.slice A0 l0.length c0, .slice A1 l1.length c1] w fun e w' => e = .returned (.bool r) ∧ Mem w [] w' [] := by
 have hu242 := Try.underlying242
 have HR0 := Aside0.mk hr0
 have HC0 := Aside0.mk hc0
 clear hr0 hc0
 have HR1 := Aside0.mk hr1
 have HC1 := Aside0.mk hc1
 clear hr1 hc1
 have HM := Mem.nil w
 have H := h
 clear h
 unfold laws_eqGoneS.f at H
 go_enter Try.func181, Try.ntmps181
 replace H := GD H; obtain ⟨c3, H⟩ := H
 obtain ⟨c3b0, c3b1⟩ := BE c3
 have c3b2 : (l0.length == l1.length) = true := by first | simpa using c3 | (simp at c3 ⊢; omega)
 clear c3
 have H' := Aside0.mk H
 clear H
 go_wp2
 go_loopg [5] k (fun kq v5 w' => ∃ (x5_1 : Int), v5 = .int .i64 x5_1 ∧ Aside0 (laws_eqGoneS.l0 kq l0 l1 x5_1 = some r) ∧ Aside0 (kq ≤ k) ∧ Mem w [] w' [])
 case atStart => exact ⟨(0), RS, H', ⟨Nat.le_refl _⟩, (MD HM).pick []⟩
 case round =>
  clear H' HM
  obtain ⟨x5_1, rfl, HA, HK1, HM⟩ := hrel
  cases gk with
  | zero => exact absurd HA.out (by simp [laws_eqGoneS.l0])
  | succ k1 =>
   have H := HA.out
   clear HA
   simp only [laws_eqGoneS.l0] at H
   go_upto_if 14 with (fail)
   replace H := IT H; rcases H with ⟨c4, H⟩ | ⟨c4, H⟩
   ·have c4b0 := decide_eq_true c4
    clear c4
    first|rw [c4b0]|(simp only [i64_w, i32_w]; rw [c4b0])|skip
    try go_wp2
    replace H := GD H; obtain ⟨c5, H⟩ := H
    have c5b0 := decide_eq_true c5
    clear c5
    replace H := GD H; obtain ⟨c6, H⟩ := H
    have c6b0 := decide_eq_true c6
    clear c6
    replace H := BN H; obtain ⟨t1581, A7, H⟩ := H
    have p1579 : 0 ≤ (x5_1 : Int) := of_decide_eq_true AS
    have q1579 : (x5_1 : Int) < (l0.length : Int) := of_decide_eq_true AS
    obtain ⟨ad1579, e1579, hx1579_0, hx1579_1⟩ := at_T242 (HM.came HR0.out) x5_1 p1579 q1579
    cases e1579
    replace p1579 := eq_true p1579
    replace q1579 := eq_true q1579
    have p1580 : 0 ≤ (x5_1 : Int) := of_decide_eq_true AS
    have q1580 : (x5_1 : Int) < (l1.length : Int) := of_decide_eq_true AS
    obtain ⟨ad1580, e1580, hx1580_0, hx1580_1⟩ := at_T242 (HM.came HR1.out) x5_1 p1580 q1580
    cases e1580
    replace p1580 := eq_true p1580
    replace q1580 := eq_true q1580
    refine RGN 10 [0, 1, 2, 3, 4, 5, 6, 7, 8, 9] (fun a0 b a w' => a = putSel a0 b [(0, 17, .slice (some ad1579) l0.length c0), (1, 18, .int .i64 x5_1), (2, 19, .pointer (some (ad1579.add ((x5_1).toNat * 2)))), (3, 20, .agg #[.int .i64 ((rd_T242 l0 x5_1).f0), .int .i64 ((rd_T242 l0 x5_1).f1)]), (4, 21, .slice (some ad1580) l1.length c1), (5, 22, .int .i64 x5_1), (6, 23, .pointer (some (ad1580.add ((x5_1).toNat * 2)))), (7, 24, .agg #[.int .i64 ((rd_T242 l1 x5_1).f0), .int .i64 ((rd_T242 l1 x5_1).f1)]), (8, 25, .bool t1581), (9, 26, .bool (!t1581))] ∧ Mem w [] w' []) laws_eqGoneS.tab6 laws_eqGoneS.bits6 ?_ ?_ ?_
    ·exact ⟨PS0' rfl _, (HM.drew).pick []⟩
    ·clear HM
     refine SY ?_ ?_
     ·intro b a w ha HM hb hon hoff K hK
      have e0 := PG ha 0
      exact VL (.slice (some ad1579) l0.length c0) (hK.out _ _ ⟨PUT ha 0 hb, HM⟩)
     refine SY ?_ ?_
     ·intro b a w ha HM hb hon hoff K hK
      have e5 := PG ha 5
      exact VL (.int .i64 x5_1) (hK.out _ _ ⟨PUT ha 1 hb, HM⟩)
     refine SY ?_ ?_
     ·intro b a w ha HM hb hon hoff K hK
      have p1579 : 0 ≤ (x5_1 : Int) := of_decide_eq_true AS
      have q1579 : (x5_1 : Int) < (l0.length : Int) := of_decide_eq_true AS
      obtain ⟨ad1579, e1579, hx1579_0, hx1579_1⟩ := at_T242 (HM.came HR0.out) x5_1 p1579 q1579
      obtain rfl := Option.some.inj e1579
      replace p1579 := eq_true p1579
      replace q1579 := eq_true q1579
      have e17 := PE ha 0 hon
      have e18 := PE ha 1 hon
      exact VL (.pointer (some (ad1579.add ((x5_1).toNat * 2)))) (hK.out _ _ ⟨PUT ha 2 hb, HM⟩)
     refine SY ?_ ?_
     ·intro b a w ha HM hb hon hoff K hK
      have p1579 : 0 ≤ (x5_1 : Int) := of_decide_eq_true AS
      have q1579 : (x5_1 : Int) < (l0.length : Int) := of_decide_eq_true AS
      obtain ⟨ad1579, e1579, hx1579_0, hx1579_1⟩ := at_T242 (HM.came HR0.out) x5_1 p1579 q1579
      obtain rfl := Option.some.inj e1579
      replace p1579 := eq_true p1579
      replace q1579 := eq_true q1579
      have e19 := PE ha 2 hon
      exact VL (.agg #[.int .i64 ((rd_T242 l0 x5_1).f0), .int .i64 ((rd_T242 l0 x5_1).f1)]) (hK.out _ _ ⟨PUT ha 3 hb, HM⟩)
     refine SY ?_ ?_
     ·intro b a w ha HM hb hon hoff K hK
      have e1 := PG ha 1
      exact VL (.slice (some ad1580) l1.length c1) (hK.out _ _ ⟨PUT ha 4 hb, HM⟩)
     refine SY ?_ ?_
     ·intro b a w ha HM hb hon hoff K hK
      have e5 := PG ha 5
      exact VL (.int .i64 x5_1) (hK.out _ _ ⟨PUT ha 5 hb, HM⟩)
     refine SY ?_ ?_
     ·intro b a w ha HM hb hon hoff K hK
      have p1580 : 0 ≤ (x5_1 : Int) := of_decide_eq_true AS
      have q1580 : (x5_1 : Int) < (l1.length : Int) := of_decide_eq_true AS
      obtain ⟨ad1580, e1580, hx1580_0, hx1580_1⟩ := at_T242 (HM.came HR1.out) x5_1 p1580 q1580
      obtain rfl := Option.some.inj e1580
      replace p1580 := eq_true p1580
      replace q1580 := eq_true q1580
      have e21 := PE ha 4 hon
      have e22 := PE ha 5 hon
      exact VL (.pointer (some (ad1580.add ((x5_1).toNat * 2)))) (hK.out _ _ ⟨PUT ha 6 hb, HM⟩)
     refine SY ?_ ?_
     ·intro b a w ha HM hb hon hoff K hK
      have p1580 : 0 ≤ (x5_1 : Int) := of_decide_eq_true AS
      have q1580 : (x5_1 : Int) < (l1.length : Int) := of_decide_eq_true AS
      obtain ⟨ad1580, e1580, hx1580_0, hx1580_1⟩ := at_T242 (HM.came HR1.out) x5_1 p1580 q1580
      obtain rfl := Option.some.inj e1580
      replace p1580 := eq_true p1580
      replace q1580 := eq_true q1580
      have e23 := PE ha 6 hon
      exact VL (.agg #[.int .i64 ((rd_T242 l1 x5_1).f0), .int .i64 ((rd_T242 l1 x5_1).f1)]) (hK.out _ _ ⟨PUT ha 7 hb, HM⟩)
     refine SY ?_ ?_
     ·intro b a w ha HM hb hon hoff K hK
      have e20 := PE ha 3 hon
      have e24 := PE ha 7 hon
      refine ST (eC (some 25) rfl #[.agg #[.int .i64 ((rd_T242 l0 x5_1).f0), .int .i64 ((rd_T242 l0 x5_1).f1)], .agg #[.int .i64 ((rd_T242 l1 x5_1).f0), .int .i64 ((rd_T242 l1 x5_1).f1)]] rfl Try.func205 (laws_eqGone.calls ((rd_T242 l0 x5_1).f0) ((rd_T242 l0 x5_1).f1) ((rd_T242 l1 x5_1).f0) ((rd_T242 l1 x5_1).f1) t1581 _ A7.out) ?_ (hargs := by (simp only [List.map_toArray, List.map_cons, List.map_nil, evc, eval_of e20, eval_of e24]) <;> rfl))
      rintro e w9 ⟨rfl, hR⟩
      refine ⟨_, rfl, ?_⟩
      replace HM := HM.call hR
      clear hR
      exact hK.out _ _ ⟨PUT ha 8 hb, (HM).pick []⟩
     refine SY ?_ ?_
     ·intro b a w ha HM hb hon hoff K hK
      have e25 := PE ha 8 hon
      exact VL (.bool (!t1581)) (hK.out _ _ ⟨PUT ha 9 hb, HM⟩)
     exact steps_nil
    rintro _ w10 ⟨rfl, HM⟩
    simp only [putSel, if_true, Act.put, List.setIfInBounds_toArray, List.set_cons_zero, List.set_cons_succ, gt_iff_lt, ge_iff_le]
    replace H := GD H
    obtain ⟨c11, H⟩ := H
    subst c11
    have H' := Aside0.mk H
    clear H
    go_wp2
    go_roundg k1
    case measure => have := HK1.out; omega
    case rel => exact ⟨(wrap64 (x5_1 + 1)), RS, H', ⟨by have := HK1.out; omega⟩, (MD HM).pick []⟩
   ·have c4b0 := decide_eq_false c4
    clear c4
    first|rw [c4b0]|(simp only [i64_w, i32_w]; rw [c4b0])|skip
    obtain rfl := Option.some.inj H
    go_wp2
    go_ret
    exact ⟨ER, (MD HM).pick []⟩
def laws_eqAges.f (k : Nat) (a0_0 : Int) (l0_1 : List Int) (l0_2 : List (S242)) (a1_0 : Int) (l1_1 : List Int) (l1_2 : List (S242)) : Option (Bool) := if a0_0 = a1_0 then ((laws_eqIntS.f k l0_1 l1_1).bind fun t1584 => (if t1584 = true then ((laws_eqGoneS.f k l0_2 l1_2).bind fun t1585 => (if t1585 = true then (some true) else (none))) else (none))) else (none)
theorem laws_eqAges.calls (k : Nat) (a0_0 : Int) (A0_1 : Option Addr) (c0_1 : Nat) (l0_1 : List Int) (A0_2 : Option Addr) (c0_2 : Nat) (l0_2 : List (S242)) (a1_0 : Int) (A1_1 : Option Addr) (c1_1 : Nat) (l1_1 : List Int) (A1_2 : Option Addr) (c1_2 : Nat) (l1_2 : List (S242)) (r : Bool) (w : World) (hr0_1 : Kd.C (Kd.int .i64) w A0_1 l0_1.length l0_1) (hc0_1 : l0_1.length ≤ c0_1) (hr0_2 : Kd.C k242 w A0_2 l0_2.length l0_2) (hc0_2 : l0_2.length ≤ c0_2) (hr1_1 : Kd.C (Kd.int .i64) w A1_1 l1_1.length l1_1) (hc1_1 : l1_1.length ≤ c1_1) (hr1_2 : Kd.C k242 w A1_2 l1_2.length l1_2) (hc1_2 : l1_2.length ≤ c1_2) (h : laws_eqAges.f k a0_0 l0_1 l0_2 a1_0 l1_1 l1_2 = some r) :
  Calls Try.prog 140 #[.agg #[.int .i64 a0_0, .slice A0_1 l0_1.length c0_1, .slice A0_2 l0_2.length c0_2], .agg #[.int .i64 a1_0, .slice A1_1 l1_1.length c1_1, .slice A1_2 l1_2.length c1_2]] w fun e w' => e = .returned (.bool r) ∧ Mem w [] w' [] := by
 have hu75 := Try.underlying75
 have HR0_1 := Aside0.mk hr0_1
 have HC0_1 := Aside0.mk hc0_1
 clear hr0_1 hc0_1
 have HR0_2 := Aside0.mk hr0_2
 have HC0_2 := Aside0.mk hc0_2
 clear hr0_2 hc0_2
 have HR1_1 := Aside0.mk hr1_1
 have HC1_1 := Aside0.mk hc1_1
 clear hr1_1 hc1_1
 have HR1_2 := Aside0.mk hr1_2
 have HC1_2 := Aside0.mk hc1_2
 clear hr1_2 hc1_2
 have HM := Mem.nil w
 have H := h
 clear h
 unfold laws_eqAges.f at H
 go_enter Try.func140, Try.ntmps140
 replace H := GD H; obtain ⟨c7, H⟩ := H
 obtain ⟨c7b0, c7b1⟩ := BE c7
 clear c7
 replace H := BN H; obtain ⟨t1584, A8, H⟩ := H
 replace H := GD H
 obtain ⟨c10, H⟩ := H
 subst c10
 replace H := BN H; obtain ⟨t1585, A13, H⟩ := H
 replace H := GD H
 obtain ⟨c15, H⟩ := H
 subst c15
 obtain rfl := Option.some.inj H
 go_wp2_with (first | ((with_reducible refine gN 2 rfl ?_); refine pB 2 75 [.int .i64 a0_0, .slice A0_1 l0_1.length c0_1, .slice A0_2 l0_2.length c0_2] HM rfl ?_; clear HM; intro gb1582 w3 HM) | ((with_reducible refine gN 3 rfl ?_); refine pB 3 75 [.int .i64 a1_0, .slice A1_1 l1_1.length c1_1, .slice A1_2 l1_2.length c1_2] HM rfl ?_; clear HM; intro gb1583 w4 HM; obtain ⟨_,_,_,_,_,_⟩ := bk3 (HM.bx 0 rfl); obtain ⟨_,_,_,_,_,_⟩ := bk3 (HM.bx 1 rfl)) | ((with_reducible refine gC 32 rfl ?_); refine pC (some 14) rfl #[.slice A0_1 l0_1.length c0_1, .slice A1_1 l1_1.length c1_1] rfl Try.func32 (laws_eqIntS.calls k _ _ l0_1 _ _ l1_1 true _ (HM.came HR0_1.out) HC0_1.out (HM.came HR1_1.out) HC1_1.out A8.out) ?_; rintro e w9 ⟨rfl, hd⟩; refine ⟨_, rfl, ?_⟩; replace HM := HM.drawn hd; clear hd; obtain ⟨_,_,_,_,_,_⟩ := bk3 (HM.bx 0 rfl); obtain ⟨_,_,_,_,_,_⟩ := bk3 (HM.bx 1 rfl)) | ((with_reducible refine gC 181 rfl ?_); refine pC (some 20) rfl #[.slice A0_2 l0_2.length c0_2, .slice A1_2 l1_2.length c1_2] rfl Try.func181 (laws_eqGoneS.calls k _ _ l0_2 _ _ l1_2 true _ (HM.came HR0_2.out) HC0_2.out (HM.came HR1_2.out) HC1_2.out A13.out) ?_; rintro e w14 ⟨rfl, hR⟩; refine ⟨_, rfl, ?_⟩; replace HM := HM.call hR; clear hR))
 go_ret
 exact ⟨ER, (MD HM).pick []⟩
def laws_eqPool.f (k : Nat) (l0_0 : List Int) (a0_1 : Int) (l0_2 : List Int) (l0_3 : List (S242)) (l0_4 : List Int) (l1_0 : List Int) (a1_1 : Int) (l1_2 : List Int) (l1_3 : List (S242)) (l1_4 : List Int) : Option (Bool) := (laws_eqIntS.f k l0_0 l1_0).bind fun t1588 => (if t1588 = true then ((laws_eqAges.f k a0_1 l0_2 l0_3 a1_1 l1_2 l1_3).bind fun t1589 => (if t1589 = true then ((laws_eqIntS.f k l0_4 l1_4).bind fun t1590 => (if t1590 = true then (some true) else (none))) else (none))) else (none))
theorem laws_eqPool.calls (k : Nat) (A0_0 : Option Addr) (c0_0 : Nat) (l0_0 : List Int) (a0_1 : Int) (A0_2 : Option Addr) (c0_2 : Nat) (l0_2 : List Int) (A0_3 : Option Addr) (c0_3 : Nat) (l0_3 : List (S242)) (A0_4 : Option Addr) (c0_4 : Nat) (l0_4 : List Int) (A1_0 : Option Addr) (c1_0 : Nat) (l1_0 : List Int) (a1_1 : Int) (A1_2 : Option Addr) (c1_2 : Nat) (l1_2 : List Int) (A1_3 : Option Addr) (c1_3 : Nat) (l1_3 : List (S242)) (A1_4 : Option Addr) (c1_4 : Nat) (l1_4 : List Int) (r : Bool) (w : World) (hr0_0 : Kd.C (Kd.int .i64) w A0_0 l0_0.length l0_0) (hc0_0 : l0_0.length ≤ c0_0) (hr0_2 : Kd.C (Kd.int .i64) w A0_2 l0_2.length l0_2) (hc0_2 : l0_2.length ≤ c0_2) (hr0_3 : Kd.C k242 w A0_3 l0_3.length l0_3) (hc0_3 : l0_3.length ≤ c0_3) (hr0_4 : Kd.C (Kd.int .i64) w A0_4 l0_4.length l0_4) (hc0_4 : l0_4.length ≤ c0_4) (hr1_0 : Kd.C (Kd.int .i64) w A1_0 l1_0.length l1_0) (hc1_0 : l1_0.length ≤ c1_0) (hr1_2 : Kd.C (Kd.int .i64) w A1_2 l1_2.length l1_2) (hc1_2 : l1_2.length ≤ c1_2) (hr1_3 : Kd.C k242 w A1_3 l1_3.length l1_3) (hc1_3 : l1_3.length ≤ c1_3) (hr1_4 : Kd.C (Kd.int .i64) w A1_4 l1_4.length l1_4) (hc1_4 : l1_4.length ≤ c1_4) (h : laws_eqPool.f k l0_0 a0_1 l0_2 l0_3 l0_4 l1_0 a1_1 l1_2 l1_3 l1_4 = some r) :
  Calls Try.prog 85 #[.agg #[.slice A0_0 l0_0.length c0_0, .int .i64 a0_1, .slice A0_2 l0_2.length c0_2, .slice A0_3 l0_3.length c0_3, .slice A0_4 l0_4.length c0_4], .agg #[.slice A1_0 l1_0.length c1_0, .int .i64 a1_1, .slice A1_2 l1_2.length c1_2, .slice A1_3 l1_3.length c1_3, .slice A1_4 l1_4.length c1_4]] w fun e w' => e = .returned (.bool r) ∧ Mem w [] w' [] := by
 have hu77 := Try.underlying77
 have hu75 := Try.underlying75
 have HR0_0 := Aside0.mk hr0_0
 have HC0_0 := Aside0.mk hc0_0
 clear hr0_0 hc0_0
 have HR0_2 := Aside0.mk hr0_2
 have HC0_2 := Aside0.mk hc0_2
 clear hr0_2 hc0_2
 have HR0_3 := Aside0.mk hr0_3
 have HC0_3 := Aside0.mk hc0_3
 clear hr0_3 hc0_3
 have HR0_4 := Aside0.mk hr0_4
 have HC0_4 := Aside0.mk hc0_4
 clear hr0_4 hc0_4
 have HR1_0 := Aside0.mk hr1_0
 have HC1_0 := Aside0.mk hc1_0
 clear hr1_0 hc1_0
 have HR1_2 := Aside0.mk hr1_2
 have HC1_2 := Aside0.mk hc1_2
 clear hr1_2 hc1_2
 have HR1_3 := Aside0.mk hr1_3
 have HC1_3 := Aside0.mk hc1_3
 clear hr1_3 hc1_3
 have HR1_4 := Aside0.mk hr1_4
 have HC1_4 := Aside0.mk hc1_4
 clear hr1_4 hc1_4
 have HM := Mem.nil w
 have H := h
 clear h
 unfold laws_eqPool.f at H
 go_enter Try.func85, Try.ntmps85
 replace H := BN H; obtain ⟨t1588, A7, H⟩ := H
 replace H := GD H
 obtain ⟨c9, H⟩ := H
 subst c9
 replace H := BN H; obtain ⟨t1589, A12, H⟩ := H
 replace H := GD H
 obtain ⟨c14, H⟩ := H
 subst c14
 replace H := BN H; obtain ⟨t1590, A17, H⟩ := H
 replace H := GD H
 obtain ⟨c19, H⟩ := H
 subst c19
 obtain rfl := Option.some.inj H
 go_wp2_with (first | ((with_reducible refine gN 2 rfl ?_); refine pB 2 77 [.slice A0_0 l0_0.length c0_0, .int .i64 a0_1, .slice A0_2 l0_2.length c0_2, .slice A0_3 l0_3.length c0_3, .slice A0_4 l0_4.length c0_4] HM rfl ?_; clear HM; intro gb1586 w3 HM) | ((with_reducible refine gN 3 rfl ?_); refine pB 3 77 [.slice A1_0 l1_0.length c1_0, .int .i64 a1_1, .slice A1_2 l1_2.length c1_2, .slice A1_3 l1_3.length c1_3, .slice A1_4 l1_4.length c1_4] HM rfl ?_; clear HM; intro gb1587 w4 HM; obtain ⟨_,_,_,_,_,_,_,_,_,_⟩ := bk5 (HM.bx 0 rfl); obtain ⟨_,_,_,_,_,_,_,_,_,_⟩ := bk5 (HM.bx 1 rfl)) | ((with_reducible refine gC 32 rfl ?_); refine pC (some 9) rfl #[.slice A0_0 l0_0.length c0_0, .slice A1_0 l1_0.length c1_0] rfl Try.func32 (laws_eqIntS.calls k _ _ l0_0 _ _ l1_0 true _ (HM.came HR0_0.out) HC0_0.out (HM.came HR1_0.out) HC1_0.out A7.out) ?_; rintro e w8 ⟨rfl, hd⟩; refine ⟨_, rfl, ?_⟩; replace HM := HM.drawn hd; clear hd; obtain ⟨_,_,_,_,_,_,_,_,_,_⟩ := bk5 (HM.bx 0 rfl); obtain ⟨_,_,_,_,_,_,_,_,_,_⟩ := bk5 (HM.bx 1 rfl)) | ((with_reducible refine gC 140 rfl ?_); refine pC (some 15) rfl #[.agg #[.int .i64 a0_1, .slice A0_2 l0_2.length c0_2, .slice A0_3 l0_3.length c0_3], .agg #[.int .i64 a1_1, .slice A1_2 l1_2.length c1_2, .slice A1_3 l1_3.length c1_3]] rfl Try.func140 (laws_eqAges.calls k a0_1 _ _ l0_2 _ _ l0_3 a1_1 _ _ l1_2 _ _ l1_3 true _ (HM.came HR0_2.out) HC0_2.out (HM.came HR0_3.out) HC0_3.out (HM.came HR1_2.out) HC1_2.out (HM.came HR1_3.out) HC1_3.out A12.out) ?_; rintro e w13 ⟨rfl, hR⟩; refine ⟨_, rfl, ?_⟩; replace HM := HM.call hR; clear hR; obtain ⟨_,_,_,_,_,_,_,_,_,_⟩ := bk5 (HM.bx 0 rfl); obtain ⟨_,_,_,_,_,_,_,_,_,_⟩ := bk5 (HM.bx 1 rfl)) | ((with_reducible refine gC 32 rfl ?_); refine pC (some 21) rfl #[.slice A0_4 l0_4.length c0_4, .slice A1_4 l1_4.length c1_4] rfl Try.func32 (laws_eqIntS.calls k _ _ l0_4 _ _ l1_4 true _ (HM.came HR0_4.out) HC0_4.out (HM.came HR1_4.out) HC1_4.out A17.out) ?_; rintro e w18 ⟨rfl, hd⟩; refine ⟨_, rfl, ?_⟩; replace HM := HM.drawn hd; clear hd))
 go_ret
 exact ⟨ER, (MD HM).pick []⟩
def laws_eqSpot.f (a0_0 : ByteArray) (a0_1 : Int) (a1_0 : ByteArray) (a1_1 : Int) : Option (Bool) := if a0_0.toList = a1_0.toList then (if a0_1 = a1_1 then (some true) else (none)) else (none)
theorem laws_eqSpot.calls (a0_0 : ByteArray) (a0_1 : Int) (a1_0 : ByteArray) (a1_1 : Int) (r : Bool) (w : World)  (h : laws_eqSpot.f a0_0 a0_1 a1_0 a1_1 = some r) :
  Calls Try.prog 141 #[.agg #[.string a0_0, .int .i64 a0_1], .agg #[.string a1_0, .int .i64 a1_1]] w fun e w' => e = .returned (.bool r) ∧ Mem w [] w' [] := by
 have hu188 := Try.underlying188
 have HM := Mem.nil w
 have H := h
 clear h
 unfold laws_eqSpot.f at H
 go_enter Try.func141, Try.ntmps141
 replace H := GD H; obtain ⟨c7, H⟩ := H
 obtain ⟨c7b0, c7b1⟩ := BE c7
 clear c7
 replace H := GD H; obtain ⟨c8, H⟩ := H
 obtain ⟨c8b0, c8b1⟩ := BE c8
 clear c8
 obtain rfl := Option.some.inj H
 go_wp2_with (first | ((with_reducible refine gN 2 rfl ?_); refine pB 2 188 [.string a0_0, .int .i64 a0_1] HM rfl ?_; clear HM; intro gb1591 w3 HM) | ((with_reducible refine gN 3 rfl ?_); refine pB 3 188 [.string a1_0, .int .i64 a1_1] HM rfl ?_; clear HM; intro gb1592 w4 HM; obtain ⟨_,_,_,_⟩ := bk2 (HM.bx 0 rfl); obtain ⟨_,_,_,_⟩ := bk2 (HM.bx 1 rfl)))
 go_ret
 exact ⟨ER, (MD HM).pick []⟩
end Go.Proofs.Ythnedklbobbkcaa.G
