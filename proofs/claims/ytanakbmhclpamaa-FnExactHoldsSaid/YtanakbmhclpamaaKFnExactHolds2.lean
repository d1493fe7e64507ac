/- Part 2 of the claim FnExactHolds, merged by pack.py (this session's program) out of: the print's words, cut to what is needed; texts that gen.py printed (it runs the kit's print in place); texts of this session. -/
import Derived.Test.YtanakbmhclpamaaKFnExactHolds1
namespace Go.Proofs.Ytanakbmhclpamaa.Mm
end Go.Proofs.Ytanakbmhclpamaa.Mm
namespace Go.Proofs.Ytanakbmhclpamaa.Sh
end Go.Proofs.Ytanakbmhclpamaa.Sh
namespace Go.Proofs.Ytanakbmhclpamaa.G
open Go.RowKit Go.Proofs.YtanakbmhclpamaaW.PrintWords Go.Proofs.YtanakbmhclpamaaW.PrintLast Go.Proofs.YtanakbmhclpamaaW.PrintMore Go.Proofs.Ytanakbmhclpamaa.Sh
attribute [local go_sem] max2_int min2_int max_two min_two max_three min_three max_four min_four
set_option linter.unusedVariables false
set_option linter.unusedSimpArgs false
open Go.Proofs.Ytanakbmhclpamaa.Mm
mutual
def spec_l10Touch.j0 : Nat → Bool → ByteArray → Int → Int → Int → Int → List (S76) → List (S76) → List Int → ByteArray → ByteArray → Int → Option (Int × Int × (List (S76)) × (List (S76)) × List Int × ByteArray × Bool)
 | 0, _, _, _, _, _, _, _, _, _, _, _, _ => none
 | k + 1, x2, x3, x11, x12, x202000, x202001, x202002, x202003, x202004, x206000, x206001, x206002 => if x12 ≥ 0 then (if 0 ≤ x12 then (if x12 < (x202003.length : Int) then (spec_l10Touch.j1 k x2 x3 x11 x12 x202000 x202001 x202002 x202003 x202004 ((rd_T76 x202003 x12).f0) ((rd_T76 x202003 x12).f1) ((rd_T76 x202003 x12).f2)) else (none)) else (none)) else (spec_l10Touch.j1 k x2 x3 x11 x12 x202000 x202001 x202002 x202003 x202004 x206000 x206001 x206002)
def spec_l10Touch.j1 : Nat → Bool → ByteArray → Int → Int → Int → Int → List (S76) → List (S76) → List Int → ByteArray → ByteArray → Int → Option (Int × Int × (List (S76)) × (List (S76)) × List Int × ByteArray × Bool)
 | 0, _, _, _, _, _, _, _, _, _, _, _, _ => none
 | k + 1, x2, x3, x11, x12, x202000, x202001, x202002, x202003, x202004, x206000, x206001, x206002 => if x11 < 0 then (spec_l10Touch.j2 k x2 x3 x11 x12 (decide (x12 < 0)) x202000 x202001 x202002 x202003 x202004 x206000 x206001 x206002) else (spec_l10Touch.j2 k x2 x3 x11 x12 false x202000 x202001 x202002 x202003 x202004 x206000 x206001 x206002)
def spec_l10Touch.j2 : Nat → Bool → ByteArray → Int → Int → Bool → Int → Int → List (S76) → List (S76) → List Int → ByteArray → ByteArray → Int → Option (Int × Int × (List (S76)) × (List (S76)) × List Int × ByteArray × Bool)
 | 0, _, _, _, _, _, _, _, _, _, _, _, _, _ => none
 | k + 1, x2, x3, x11, x12, x42, x202000, x202001, x202002, x202003, x202004, x206000, x206001, x206002 => if x42 = true then (some (x202000, x202001, x202002, x202003, x202004, (⟨#[]⟩ : ByteArray), false)) else ((spec_l10More.f x206002).bind fun t208 => (if x2 = true then (if x11 ≥ 0 then (if 0 ≤ x11 then (if x11 < (x202002.length : Int) then (some (x202000, x202001, (x202002.set (x11 : Int).toNat (⟨x206000, x3, t208⟩ : S76)), x202003, x202004, x3, true)) else (none)) else (none)) else (if 0 ≤ x12 then (if x12 < (x202003.length : Int) then (some (x202000, x202001, x202002, (x202003.set (x12 : Int).toNat (⟨x206000, x3, t208⟩ : S76)), x202004, x3, true)) else (none)) else (none))) else (if x11 ≥ 0 then (if 0 ≤ x11 then (if x11 < (x202002.length : Int) then (some (x202000, x202001, (x202002.set (x11 : Int).toNat (⟨x206000, x206001, t208⟩ : S76)), x202003, x202004, x206001, true)) else (none)) else (none)) else (if 0 ≤ x12 then (if x12 < (x202003.length : Int) then (some (x202000, x202001, x202002, (x202003.set (x12 : Int).toNat (⟨x206000, x206001, t208⟩ : S76)), x202004, x206001, true)) else (none)) else (none)))))
end
def spec_l10Touch.f (k : Nat) (a0_0 : Int) (a0_1 : Int) (l0_2 : List (S76)) (l0_3 : List (S76)) (l0_4 : List Int) (a1 : ByteArray) (a2 : Bool) (a3 : ByteArray) : Option (Int × Int × (List (S76)) × (List (S76)) × List Int × ByteArray × Bool) := (spec_l10At.f k l0_2 a1).bind fun t203 => ((spec_l10At.f k l0_3 a1).bind fun t204 => (if t203 ≥ 0 then (if 0 ≤ t203 then (if t203 < (l0_2.length : Int) then (spec_l10Touch.j0 k a2 a3 t203 t204 a0_0 a0_1 l0_2 l0_3 l0_4 ((rd_T76 l0_2 t203).f0) ((rd_T76 l0_2 t203).f1) ((rd_T76 l0_2 t203).f2)) else (none)) else (none)) else (spec_l10Touch.j0 k a2 a3 t203 t204 a0_0 a0_1 l0_2 l0_3 l0_4 (⟨#[]⟩ : ByteArray) (⟨#[]⟩ : ByteArray) 0)))
def spec_l10Touch.T16 : Bool × List (List Nat × List Nat) := (true, [([], []), ([], []), ([1], [1]), ([0, 0], [0]), ([2, 3, 0, 1, 2, 3], [2]), ([4, 0, 1, 2, 3, 4], [])])
def spec_l10Touch.B16 : List Nat := [0, 0, 2, 1, 15, 31]
theorem spec_l10Touch.tab16 : rtab .any (opsOf Try.f108 16) = spec_l10Touch.T16 := by kernel_rfl
theorem spec_l10Touch.bits16 : waitsOk spec_l10Touch.T16.2 spec_l10Touch.B16 = true := by kernel_rfl
set_option maxHeartbeats 8000000 in
set_option maxRecDepth 100000 in
theorem spec_l10Touch.calls (k : Nat) (a0_0 : Int) (a0_1 : Int) (u9000_ : Value) (l0_2 : List (S76)) (u9001_ : Value) (l0_3 : List (S76)) (u9002_ : Value) (l0_4 : List Int) (a1 : ByteArray) (a2 : Bool) (a3 : ByteArray) (r1 : Int) (r2 : Int) (r3 : List (S76)) (r4 : List (S76)) (r5 : List Int) (r6 : ByteArray) (r7 : Bool) (w0 w : World) (F : List SP)  (hM : Mem w0 F w [rowR k76 76 u9000_ l0_2, rowR k76 76 u9001_ l0_3, rowR (Kd.int .i64) 3 u9002_ l0_4]) (h : spec_l10Touch.f k a0_0 a0_1 l0_2 l0_3 l0_4 a1 a2 a3 = some (r1, r2, r3, r4, r5, r6, r7)) :
  Calls Try.prog 108 #[.agg #[.int .i64 a0_0, .int .i64 a0_1, u9000_, u9001_, u9002_], .string a1, .bool a2, .string a3] w fun e w' => ∃ v2_ v3_ v4_ : Value, e = .returned (.tuple #[.agg #[.int .i64 r1, .int .i64 r2, v2_, v3_, v4_], .string r6, .bool r7]) ∧ Mem w0 F w' [rowR k76 76 v2_ r3, rowR k76 76 v3_ r4, rowR (Kd.int .i64) 3 v4_ r5] := by
 have hu65 := Try.underlying65
 have hu76 := Try.underlying76
 have HM := hM
 clear hM
 have H := h
 clear h
 unfold spec_l10Touch.f at H
 go_enter Try.func108, Try.ntmps108
 replace H := BN H; obtain ⟨t203, A11, H⟩ := H
 replace H := BN H; obtain ⟨t204, A14, H⟩ := H
 have HC18 := Aside0.mk H
 clear H
 obtain ⟨Xo5, ko5, eo5⟩ := HM.rdR 0 rfl
 subst eo5
 obtain ⟨Xo6, ko6, eo6⟩ := HM.rdR 1 rfl
 subst eo6
 obtain ⟨Xo7, ko7, eo7⟩ := HM.rdR 2 rfl
 subst eo7
 go_upto_if 24 with (first | ((with_reducible refine gN 4 rfl ?_); refine pB 4 65 [.int .i64 a0_0, .int .i64 a0_1, .slice Xo5 l0_2.length ko5, .slice Xo6 l0_3.length ko6, .slice Xo7 l0_4.length ko7] HM rfl ?_; clear HM; intro gb201 w8 HM) | ((with_reducible refine gN 8 rfl ?_); refine pB 8 65 [.int .i64 0, .int .i64 0, .slice none 0 0, .slice none 0 0, .slice none 0 0] HM rfl ?_; clear HM; intro gb202 w9 HM; obtain ⟨z10_0, z10_1, z10_2, z10_3, z10_4, Z10_0, Z10_1, Z10_2, Z10_3, Z10_4⟩ := bk5 (HM.bx 3 rfl)) | ((with_reducible refine gC 100 rfl ?_); refine pC (some 17) rfl #[.slice Xo5 l0_2.length ko5, .string a1] rfl Try.func100 (spec_l10At.calls k _ _ l0_2 a1 t203 _ (HM.CR 0 rfl).2.2 (HM.CR 0 rfl).2.1 A11.out) ?_; rintro e w12 ⟨rfl, hR⟩; refine ⟨_, rfl, ?_⟩; replace HM := HM.call hR; clear hR; obtain ⟨z13_0, z13_1, z13_2, z13_3, z13_4, Z13_0, Z13_1, Z13_2, Z13_3, Z13_4⟩ := bk5 (HM.bx 3 rfl)) | ((with_reducible refine gC 100 rfl ?_); refine pC (some 21) rfl #[.slice Xo6 l0_3.length ko6, .string a1] rfl Try.func100 (spec_l10At.calls k _ _ l0_3 a1 t204 _ (HM.CR 1 rfl).2.2 (HM.CR 1 rfl).2.1 A14.out) ?_; rintro e w15 ⟨rfl, hR⟩; refine ⟨_, rfl, ?_⟩; replace HM := HM.call hR; clear hR) | ((with_reducible refine gN 13 rfl ?_); refine pB 13 76 [.string (⟨#[]⟩ : ByteArray), .string (⟨#[]⟩ : ByteArray), .int .i64 0] HM rfl ?_; clear HM; intro gb205 w16 HM) | ((with_reducible refine gS 13 rfl ?_); refine pS 5 13 0 [.string (⟨#[]⟩ : ByteArray), .string (⟨#[]⟩ : ByteArray), .int .i64 0] HM rfl rfl ?_; clear HM; intro w17 HM))
 replace HM := nzM HM
 go_cut [] (fun wc => ∃ (kq : Nat) (x206000_17 : ByteArray) (x206001_17 : ByteArray) (x206002_17 : Int), Aside0 (spec_l10Touch.j0 kq a2 a3 t203 t204 a0_0 a0_1 l0_2 l0_3 l0_4 x206000_17 x206001_17 x206002_17 = some (r1, r2, r3, r4, r5, r6, r7)) ∧ Aside0 (kq ≤ k) ∧ Mem w0 F wc [rowR k76 76 (.slice Xo5 l0_2.length ko5) l0_2, rowR k76 76 (.slice Xo6 l0_3.length ko6) l0_3, rowR (Kd.int .i64) 3 (.slice Xo7 l0_4.length ko7) l0_4, box 65 gb201 [.int .i64 a0_0, .int .i64 a0_1, (.slice Xo5 l0_2.length ko5), (.slice Xo6 l0_3.length ko6), (.slice Xo7 l0_4.length ko7)], box 65 gb202 [.int .i64 0, .int .i64 0, .slice none 0 0, .slice none 0 0, .slice none 0 0], box 76 gb205 [.string x206000_17, .string x206001_17, .int .i64 x206002_17]])
 case first =>
  have H := HC18.out
  clear HC18
  go_upto_if 24 with (fail)
  replace H := IT H; rcases H with ⟨c19, H⟩ | ⟨c19, H⟩
  ·have c19b0 : decide (0 ≤ t203) = true := decide_eq_true c19
   clear c19
   (first | rw [c19b0] | (simp only [i64_w, i32_w]; rw [c19b0]) | skip)
   replace H := GD H; obtain ⟨c21, H⟩ := H
   have c21b0 : decide (0 ≤ t203) = true := decide_eq_true c21
   clear c21
   replace H := GD H; obtain ⟨c22, H⟩ := H
   have c22b0 : decide (t203 < (l0_2.length : Int)) = true := decide_eq_true c22
   clear c22
   have H' := Aside0.mk H
   clear H
   obtain ⟨z20_0, z20_1, z20_2, z20_3, z20_4, Z20_0, Z20_1, Z20_2, Z20_3, Z20_4⟩ := bk5 (HM.bx 3 rfl)
   have p206 : 0 ≤ (t203 : Int) := of_decide_eq_true AS
   have q206 : (t203 : Int) < (l0_2.length : Int) := of_decide_eq_true AS
   obtain ⟨ad206, e206, hx206_0, hx206_1, hx206_2⟩ := at_T76 (HM.CR 0 rfl).2.2 t203 p206 q206
   cases e206
   replace p206 := eq_true p206
   replace q206 := eq_true q206
   go_wp2_with (first | ((with_reducible refine gS 13 rfl ?_); refine pS 5 13 0 [.string ((rd_T76 l0_2 t203).f0), .string ((rd_T76 l0_2 t203).f1), .int .i64 ((rd_T76 l0_2 t203).f2)] HM rfl rfl ?_; clear HM; intro w23 HM))
   go_meet
   case rel => exact ⟨_, ((rd_T76 l0_2 t203).f0), ((rd_T76 l0_2 t203).f1), ((rd_T76 l0_2 t203).f2), H', ⟨by first | omega | exact Nat.le_refl _⟩, (MD HM).pick [0, 1, 2, 3, 4, 5]⟩
  ·have c19b0 : decide (0 ≤ t203) = false := decide_eq_false c19
   clear c19
   (first | rw [c19b0] | (simp only [i64_w, i32_w]; rw [c19b0]) | skip)
   have H' := Aside0.mk H
   clear H
   go_wp2
   go_meet
   case rel => exact ⟨_, ((⟨#[]⟩ : ByteArray)), ((⟨#[]⟩ : ByteArray)), (0), H', ⟨by first | omega | exact Nat.le_refl _⟩, (MD HM).pick [0, 1, 2, 3, 4, 5]⟩
 case rest =>
  clear HC18 HM
  obtain ⟨kq, x206000_17, x206001_17, x206002_17, HA, HJ17, HM⟩ := hcut
  cases kq with
  | zero => exact absurd HA.out (by simp [spec_l10Touch.j0])
  | succ kj17 =>
   have H := HA.out
   clear HA
   simp only [spec_l10Touch.j0] at H
   have HC24 := Aside0.mk H
   clear H
   go_upto_if 31 with (fail)
   go_cut [] (fun wc => ∃ (kq : Nat) (x206000_23 : ByteArray) (x206001_23 : ByteArray) (x206002_23 : Int), Aside0 (spec_l10Touch.j1 kq a2 a3 t203 t204 a0_0 a0_1 l0_2 l0_3 l0_4 x206000_23 x206001_23 x206002_23 = some (r1, r2, r3, r4, r5, r6, r7)) ∧ Aside0 (kq ≤ kj17) ∧ Mem w0 F wc [rowR k76 76 (.slice Xo5 l0_2.length ko5) l0_2, rowR k76 76 (.slice Xo6 l0_3.length ko6) l0_3, rowR (Kd.int .i64) 3 (.slice Xo7 l0_4.length ko7) l0_4, box 65 gb201 [.int .i64 a0_0, .int .i64 a0_1, (.slice Xo5 l0_2.length ko5), (.slice Xo6 l0_3.length ko6), (.slice Xo7 l0_4.length ko7)], box 65 gb202 [.int .i64 0, .int .i64 0, .slice none 0 0, .slice none 0 0, .slice none 0 0], box 76 gb205 [.string x206000_23, .string x206001_23, .int .i64 x206002_23]])
   case first =>
    have H := HC24.out
    clear HC24
    go_upto_if 31 with (fail)
    replace H := IT H; rcases H with ⟨c25, H⟩ | ⟨c25, H⟩
    ·have c25b0 : decide (0 ≤ t204) = true := decide_eq_true c25
     clear c25
     (first | rw [c25b0] | (simp only [i64_w, i32_w]; rw [c25b0]) | skip)
     replace H := GD H; obtain ⟨c27, H⟩ := H
     have c27b0 : decide (0 ≤ t204) = true := decide_eq_true c27
     clear c27
     replace H := GD H; obtain ⟨c28, H⟩ := H
     have c28b0 : decide (t204 < (l0_3.length : Int)) = true := decide_eq_true c28
     clear c28
     have H' := Aside0.mk H
     clear H
     obtain ⟨z26_0, z26_1, z26_2, z26_3, z26_4, Z26_0, Z26_1, Z26_2, Z26_3, Z26_4⟩ := bk5 (HM.bx 3 rfl)
     have p207 : 0 ≤ (t204 : Int) := of_decide_eq_true AS
     have q207 : (t204 : Int) < (l0_3.length : Int) := of_decide_eq_true AS
     obtain ⟨ad207, e207, hx207_0, hx207_1, hx207_2⟩ := at_T76 (HM.CR 1 rfl).2.2 t204 p207 q207
     cases e207
     replace p207 := eq_true p207
     replace q207 := eq_true q207
     go_wp2_with (first | ((with_reducible refine gS 13 rfl ?_); refine pS 5 13 0 [.string ((rd_T76 l0_3 t204).f0), .string ((rd_T76 l0_3 t204).f1), .int .i64 ((rd_T76 l0_3 t204).f2)] HM rfl rfl ?_; clear HM; intro w29 HM))
     go_meet
     case rel => exact ⟨_, ((rd_T76 l0_3 t204).f0), ((rd_T76 l0_3 t204).f1), ((rd_T76 l0_3 t204).f2), H', ⟨by have := HJ17.out; first | omega | exact Nat.le_refl _⟩, (MD HM).pick [0, 1, 2, 3, 4, 5]⟩
    ·have c25b0 : decide (0 ≤ t204) = false := decide_eq_false c25
     clear c25
     (first | rw [c25b0] | (simp only [i64_w, i32_w]; rw [c25b0]) | skip)
     have H' := Aside0.mk H
     clear H
     go_wp2
     go_meet
     case rel => exact ⟨_, (x206000_17), (x206001_17), (x206002_17), H', ⟨by have := HJ17.out; first | omega | exact Nat.le_refl _⟩, (MD HM).pick [0, 1, 2, 3, 4, 5]⟩
   case rest =>
    clear HC24 HM
    obtain ⟨kq, x206000_23, x206001_23, x206002_23, HA, HJ23, HM⟩ := hcut
    cases kq with
    | zero => exact absurd HA.out (by simp [spec_l10Touch.j1])
    | succ kj23 =>
     have H := HA.out
     clear HA
     simp only [spec_l10Touch.j1] at H
     have HC30 := Aside0.mk H
     clear H
     go_upto_region 8 with (fail)
     go_cut [42] (fun v42 wc => ∃ (kq : Nat) (x42_29 : Bool), v42 = .bool x42_29 ∧ Aside0 (spec_l10Touch.j2 kq a2 a3 t203 t204 x42_29 a0_0 a0_1 l0_2 l0_3 l0_4 x206000_23 x206001_23 x206002_23 = some (r1, r2, r3, r4, r5, r6, r7)) ∧ Aside0 (kq ≤ kj23) ∧ Mem w0 F wc [rowR k76 76 (.slice Xo5 l0_2.length ko5) l0_2, rowR k76 76 (.slice Xo6 l0_3.length ko6) l0_3, rowR (Kd.int .i64) 3 (.slice Xo7 l0_4.length ko7) l0_4, box 65 gb201 [.int .i64 a0_0, .int .i64 a0_1, (.slice Xo5 l0_2.length ko5), (.slice Xo6 l0_3.length ko6), (.slice Xo7 l0_4.length ko7)], box 65 gb202 [.int .i64 0, .int .i64 0, .slice none 0 0, .slice none 0 0, .slice none 0 0], box 76 gb205 [.string x206000_23, .string x206001_23, .int .i64 x206002_23]])
     case first =>
      have H := HC30.out
      clear HC30
      replace H := IT H; rcases H with ⟨c31, H⟩ | ⟨c31, H⟩
      ·have c31b0 : decide (t203 < 0) = true := decide_eq_true c31
       clear c31
       have H' := Aside0.mk H
       clear H
       go_wp2
       go_meet
       case rel => exact ⟨_, (decide (t204 < 0)), RS, H', ⟨by have := HJ17.out; have := HJ23.out; first | omega | exact Nat.le_refl _⟩, (MD HM).pick [0, 1, 2, 3, 4, 5]⟩
      ·have c31b0 : decide (t203 < 0) = false := decide_eq_false c31
       clear c31
       have H' := Aside0.mk H
       clear H
       go_wp2
       go_meet
       case rel => exact ⟨_, (false), RS, H', ⟨by have := HJ17.out; have := HJ23.out; first | omega | exact Nat.le_refl _⟩, (MD HM).pick [0, 1, 2, 3, 4, 5]⟩
     case rest =>
      clear HC30 HM
      obtain ⟨kq, x42_29, rfl, HA, HJ29, HM⟩ := hcut
      cases kq with
      | zero => exact absurd HA.out (by simp [spec_l10Touch.j2])
      | succ kj29 =>
       have H := HA.out
       clear HA
       simp only [spec_l10Touch.j2] at H
       go_upto_if 42 with (fail)
       replace H := IB H
       rcases H with ⟨c32, H⟩ | ⟨c32, H⟩
       ·subst c32
        simp only [Option.some.injEq, Prod.mk.injEq] at H
        obtain ⟨rfl, rfl, rfl, rfl, rfl, rfl, rfl⟩ := H
        obtain ⟨z33_0, z33_1, z33_2, z33_3, z33_4, Z33_0, Z33_1, Z33_2, Z33_3, Z33_4⟩ := bk5 (HM.bx 3 rfl)
        go_wp2_with (first | ((with_reducible refine gS 8 rfl ?_); refine pS 4 8 0 [.int .i64 a0_0, .int .i64 a0_1, .slice Xo5 l0_2.length ko5, .slice Xo6 l0_3.length ko6, .slice Xo7 l0_4.length ko7] HM rfl rfl ?_; clear HM; intro w34 HM))
        refine bodyPost_ret (results_ctt rfl _ _ gb202 65 #[.int .i64 a0_0, .int .i64 a0_1, .slice Xo5 l0_2.length ko5, .slice Xo6 l0_3.length ko6, .slice Xo7 l0_4.length ko7] (0, 0) _ rfl (HM.bx 4 rfl) Try.underlying65 rfl (by kernel_rfl)) rfl ?_
        exact ⟨_, _, _, ER, (MD HM).pick [0, 1, 2]⟩
       ·subst c32
        replace H := BN H; obtain ⟨t208, A36, H⟩ := H
        obtain ⟨z35_0, z35_1, z35_2, Z35_0, Z35_1, Z35_2⟩ := bk3 (HM.bx 5 rfl)
        go_upto_if 48 with (first | ((with_reducible refine gC 122 rfl ?_); refine pC (some 46) rfl #[.int .i64 x206002_23] rfl Try.func122 (spec_l10More.calls x206002_23 t208 _ A36.out) ?_; rintro e w37 ⟨rfl, hd⟩; refine ⟨_, rfl, ?_⟩; replace HM := HM.drawn hd; clear hd) | ((with_reducible refine gS 47 rfl ?_); refine pS 5 47 2 [.int .i64 t208] HM rfl rfl ?_; clear HM; intro w38 HM))
        replace H := IB H
        rcases H with ⟨c39, H⟩ | ⟨c39, H⟩
        ·subst c39
         go_upto_if 52 with (first | ((with_reducible refine gS 50 rfl ?_); refine pS 5 50 1 [.string a3] HM rfl rfl ?_; clear HM; intro w40 HM))
         replace H := IT H; rcases H with ⟨c41, H⟩ | ⟨c41, H⟩
         ·have c41b0 : decide (0 ≤ t203) = true := decide_eq_true c41
          clear c41
          (first | rw [c41b0] | (simp only [i64_w, i32_w]; rw [c41b0]) | skip)
          replace H := GD H; obtain ⟨c44, H⟩ := H
          have c44b0 : decide (0 ≤ t203) = true := decide_eq_true c44
          clear c44
          replace H := GD H; obtain ⟨c45, H⟩ := H
          have c45b0 : decide (t203 < (l0_2.length : Int)) = true := decide_eq_true c45
          clear c45
          obtain ⟨z42_0, z42_1, z42_2, z42_3, z42_4, Z42_0, Z42_1, Z42_2, Z42_3, Z42_4⟩ := bk5 (HM.bx 3 rfl)
          obtain ⟨z43_0, z43_1, z43_2, Z43_0, Z43_1, Z43_2⟩ := bk3 (HM.bx 5 rfl)
          have p46 : 0 ≤ (t203 : Int) := of_decide_eq_true AS
          have q46 : (t203 : Int) < ((l0_2.length : Int) : Int) := of_decide_eq_true AS
          obtain ⟨go46, ef46⟩ := HM.form 0 rfl (by have h_ := (HM.CR 0 rfl).1; omega)
          subst ef46
          obtain ⟨hx46_0, hx46_1, hx46_2, hf46_0, hf46_1, hf46_2⟩ := HM.el3 0 rfl z76 (t203 : Int) p46 (by have h_ := (HM.CR 0 rfl).1; omega) (.string ((rd_T76 l0_2 t203).f0)) (.string ((rd_T76 l0_2 t203).f1)) (.int .i64 ((rd_T76 l0_2 t203).f2)) (fun _ _ h => k76_openM h)
          replace p46 := eq_true p46
          replace q46 := eq_true q46
          try go_wp2_with (first | ((with_reducible refine gS 57 rfl ?_); refine pPR 0 57 (t203 : Int) 0 [.string x206000_23, .string a3, .int .i64 t208] k76 76 l0_2 (⟨x206000_23, a3, t208⟩ : S76) z76 [.string ((rd_T76 l0_2 t203).f0), .string ((rd_T76 l0_2 t203).f1), .int .i64 ((rd_T76 l0_2 t203).f2)] HM rfl rfl (of_decide_eq_true AS) (by have h_ : (t203 : Int) < ((l0_2.length : Int) : Int) := of_decide_eq_true AS; have e_ := (HM.CR 0 rfl).1; omega) (fun _ _ h => k76_openM h) (k76_mkM _ _ _ (⟨x206000_23, a3, t208⟩ : S76)) ?_; clear HM; intro w47 HM))
          refine RGN 6 [0, 1, 2, 3, 4, 5] (fun a0 b a w' => a = putSel a0 b [(0, 63, .agg #[.int .i64 a0_0, .int .i64 a0_1, .slice (some ⟨go46, 0, none⟩) l0_2.length ko5, .slice Xo6 l0_3.length ko6, .slice Xo7 l0_4.length ko7]), (1, 64, .pointer (some ⟨gb205, 1, none⟩)), (2, 65, .string a3), (4, 9, .string a3), (5, 10, .bool true)] ∧ Mem w0 F w' [rowR k76 76 (.slice (some ⟨go46, 0, none⟩) l0_2.length ko5) (l0_2.set (t203 : Int).toNat (⟨x206000_23, a3, t208⟩ : S76)), rowR k76 76 (.slice Xo6 l0_3.length ko6) l0_3, rowR (Kd.int .i64) 3 (.slice Xo7 l0_4.length ko7) l0_4, box 65 gb201 [.int .i64 a0_0, .int .i64 a0_1, .slice (some ⟨go46, 0, none⟩) l0_2.length ko5, .slice Xo6 l0_3.length ko6, .slice Xo7 l0_4.length ko7], sel (b 3) (box 65 gb202 [.int .i64 a0_0, .int .i64 a0_1, .slice (some ⟨go46, 0, none⟩) l0_2.length ko5, .slice Xo6 l0_3.length ko6, .slice Xo7 l0_4.length ko7]) (box 65 gb202 [.int .i64 0, .int .i64 0, .slice none 0 0, .slice none 0 0, .slice none 0 0]), box 76 gb205 [.string x206000_23, .string a3, .int .i64 t208]]) spec_l10Touch.tab16 spec_l10Touch.bits16 ?_ ?_ ?_
          ·exact ⟨PS0' rfl _, (HM.drew).pick [0, 1, 2, 3, 4, 5]⟩
          ·clear HM
           refine SY ?_ ?_
           ·intro b a w ha HM hb hon hoff K hK
            obtain ⟨z51_0, z51_1, z51_2, z51_3, z51_4, Z51_0, Z51_1, Z51_2, Z51_3, Z51_4⟩ := bk5 (HM.bx 3 rfl)
            have e4 := PG ha 4
            exact VL (.agg #[.int .i64 a0_0, .int .i64 a0_1, .slice (some ⟨go46, 0, none⟩) l0_2.length ko5, .slice Xo6 l0_3.length ko6, .slice Xo7 l0_4.length ko7]) (hK.out _ _ ⟨PUT ha 0 hb, HM⟩)
           refine SY ?_ ?_
           ·intro b a w ha HM hb hon hoff K hK
            have e13 := PG ha 13
            exact VL (.pointer (some ⟨gb205, 1, none⟩)) (hK.out _ _ ⟨PUT ha 1 hb, HM⟩)
           refine SY ?_ ?_
           ·intro b a w ha HM hb hon hoff K hK
            obtain ⟨z52_0, z52_1, z52_2, Z52_0, Z52_1, Z52_2⟩ := bk3 (HM.bx 5 rfl)
            have e64 := PE ha 1 hon
            exact VL (.string a3) (hK.out _ _ ⟨PUT ha 2 hb, HM⟩)
           refine SY ?_ ?_
           ·intro b a w ha HM hb hon hoff K hK
            replace HM := HM.sF 4 rfl hb
            have e8 := PG ha 8
            have e63 := PE ha 0 hon
            refine ST (eS 4 8 0 [.int .i64 a0_0, .int .i64 a0_1, .slice (some ⟨go46, 0, none⟩) l0_2.length ko5, .slice Xo6 l0_3.length ko6, .slice Xo7 l0_4.length ko7] HM rfl rfl ?_ (hp := (eval_of e8)) (hx := (by rw [eval_of e63]; rfl)))
            clear HM
            intro w53 HM
            exact hK.out _ _ ⟨PUS ha, (HM).pick [0, 1, 2, 3, 4, 5]⟩
           refine SY ?_ ?_
           ·intro b a w ha HM hb hon hoff K hK
            have e65 := PE ha 2 hon
            exact VL (.string a3) (hK.out _ _ ⟨PUT ha 3 hb, HM⟩)
           refine SY ?_ ?_
           ·intro b a w ha HM hb hon hoff K hK
            exact VL (.bool true) (hK.out _ _ ⟨PUT ha 4 hb, HM⟩)
           exact steps_nil
          rintro _ w54 ⟨rfl, HM⟩
          replace HM := HM.sT 4 rfl rfl
          simp only [putSel, if_true, Act.put, List.setIfInBounds_toArray, List.set_cons_zero, List.set_cons_succ, gt_iff_lt, ge_iff_le]
          simp only [Option.some.injEq, Prod.mk.injEq] at H
          obtain ⟨rfl, rfl, rfl, rfl, rfl, rfl, rfl⟩ := H
          go_wp2
          refine bodyPost_ret (results_ctt rfl _ _ gb202 65 #[.int .i64 a0_0, .int .i64 a0_1, .slice (some ⟨go46, 0, none⟩) l0_2.length ko5, .slice Xo6 l0_3.length ko6, .slice Xo7 l0_4.length ko7] (0, 0) _ rfl (HM.bx 4 rfl) Try.underlying65 rfl (by kernel_rfl)) rfl ?_
          exact ⟨_, _, _, ER, (MD HM).pick [0, 1, 2]⟩
         ·have c41b0 : decide (0 ≤ t203) = false := decide_eq_false c41
          clear c41
          (first | rw [c41b0] | (simp only [i64_w, i32_w]; rw [c41b0]) | skip)
          replace H := GD H; obtain ⟨c57, H⟩ := H
          have c57b0 : decide (0 ≤ t204) = true := decide_eq_true c57
          clear c57
          replace H := GD H; obtain ⟨c58, H⟩ := H
          have c58b0 : decide (t204 < (l0_3.length : Int)) = true := decide_eq_true c58
          clear c58
          obtain ⟨z55_0, z55_1, z55_2, z55_3, z55_4, Z55_0, Z55_1, Z55_2, Z55_3, Z55_4⟩ := bk5 (HM.bx 3 rfl)
          obtain ⟨z56_0, z56_1, z56_2, Z56_0, Z56_1, Z56_2⟩ := bk3 (HM.bx 5 rfl)
          have p59 : 0 ≤ (t204 : Int) := of_decide_eq_true AS
          have q59 : (t204 : Int) < ((l0_3.length : Int) : Int) := of_decide_eq_true AS
          obtain ⟨go59, ef59⟩ := HM.form 1 rfl (by have h_ := (HM.CR 1 rfl).1; omega)
          subst ef59
          obtain ⟨hx59_0, hx59_1, hx59_2, hf59_0, hf59_1, hf59_2⟩ := HM.el3 1 rfl z76 (t204 : Int) p59 (by have h_ := (HM.CR 1 rfl).1; omega) (.string ((rd_T76 l0_3 t204).f0)) (.string ((rd_T76 l0_3 t204).f1)) (.int .i64 ((rd_T76 l0_3 t204).f2)) (fun _ _ h => k76_openM h)
          replace p59 := eq_true p59
          replace q59 := eq_true q59
          try go_wp2_with (first | ((with_reducible refine gS 62 rfl ?_); refine pPR 1 62 (t204 : Int) 0 [.string x206000_23, .string a3, .int .i64 t208] k76 76 l0_3 (⟨x206000_23, a3, t208⟩ : S76) z76 [.string ((rd_T76 l0_3 t204).f0), .string ((rd_T76 l0_3 t204).f1), .int .i64 ((rd_T76 l0_3 t204).f2)] HM rfl rfl (of_decide_eq_true AS) (by have h_ : (t204 : Int) < ((l0_3.length : Int) : Int) := of_decide_eq_true AS; have e_ := (HM.CR 1 rfl).1; omega) (fun _ _ h => k76_openM h) (k76_mkM _ _ _ (⟨x206000_23, a3, t208⟩ : S76)) ?_; clear HM; intro w60 HM))
          refine RGN 6 [0, 1, 2, 3, 4, 5] (fun a0 b a w' => a = putSel a0 b [(0, 63, .agg #[.int .i64 a0_0, .int .i64 a0_1, .slice Xo5 l0_2.length ko5, .slice (some ⟨go59, 0, none⟩) l0_3.length ko6, .slice Xo7 l0_4.length ko7]), (1, 64, .pointer (some ⟨gb205, 1, none⟩)), (2, 65, .string a3), (4, 9, .string a3), (5, 10, .bool true)] ∧ Mem w0 F w' [rowR k76 76 (.slice Xo5 l0_2.length ko5) l0_2, rowR k76 76 (.slice (some ⟨go59, 0, none⟩) l0_3.length ko6) (l0_3.set (t204 : Int).toNat (⟨x206000_23, a3, t208⟩ : S76)), rowR (Kd.int .i64) 3 (.slice Xo7 l0_4.length ko7) l0_4, box 65 gb201 [.int .i64 a0_0, .int .i64 a0_1, .slice Xo5 l0_2.length ko5, .slice (some ⟨go59, 0, none⟩) l0_3.length ko6, .slice Xo7 l0_4.length ko7], sel (b 3) (box 65 gb202 [.int .i64 a0_0, .int .i64 a0_1, .slice Xo5 l0_2.length ko5, .slice (some ⟨go59, 0, none⟩) l0_3.length ko6, .slice Xo7 l0_4.length ko7]) (box 65 gb202 [.int .i64 0, .int .i64 0, .slice none 0 0, .slice none 0 0, .slice none 0 0]), box 76 gb205 [.string x206000_23, .string a3, .int .i64 t208]]) spec_l10Touch.tab16 spec_l10Touch.bits16 ?_ ?_ ?_
          ·exact ⟨PS0' rfl _, (HM.drew).pick [0, 1, 2, 3, 4, 5]⟩
          ·clear HM
           refine SY ?_ ?_
           ·intro b a w ha HM hb hon hoff K hK
            obtain ⟨z64_0, z64_1, z64_2, z64_3, z64_4, Z64_0, Z64_1, Z64_2, Z64_3, Z64_4⟩ := bk5 (HM.bx 3 rfl)
            have e4 := PG ha 4
            exact VL (.agg #[.int .i64 a0_0, .int .i64 a0_1, .slice Xo5 l0_2.length ko5, .slice (some ⟨go59, 0, none⟩) l0_3.length ko6, .slice Xo7 l0_4.length ko7]) (hK.out _ _ ⟨PUT ha 0 hb, HM⟩)
           refine SY ?_ ?_
           ·intro b a w ha HM hb hon hoff K hK
            have e13 := PG ha 13
            exact VL (.pointer (some ⟨gb205, 1, none⟩)) (hK.out _ _ ⟨PUT ha 1 hb, HM⟩)
           refine SY ?_ ?_
           ·intro b a w ha HM hb hon hoff K hK
            obtain ⟨z65_0, z65_1, z65_2, Z65_0, Z65_1, Z65_2⟩ := bk3 (HM.bx 5 rfl)
            have e64 := PE ha 1 hon
            exact VL (.string a3) (hK.out _ _ ⟨PUT ha 2 hb, HM⟩)
           refine SY ?_ ?_
           ·intro b a w ha HM hb hon hoff K hK
            replace HM := HM.sF 4 rfl hb
            have e8 := PG ha 8
            have e63 := PE ha 0 hon
            refine ST (eS 4 8 0 [.int .i64 a0_0, .int .i64 a0_1, .slice Xo5 l0_2.length ko5, .slice (some ⟨go59, 0, none⟩) l0_3.length ko6, .slice Xo7 l0_4.length ko7] HM rfl rfl ?_ (hp := (eval_of e8)) (hx := (by rw [eval_of e63]; rfl)))
            clear HM
            intro w66 HM
            exact hK.out _ _ ⟨PUS ha, (HM).pick [0, 1, 2, 3, 4, 5]⟩
           refine SY ?_ ?_
           ·intro b a w ha HM hb hon hoff K hK
            have e65 := PE ha 2 hon
            exact VL (.string a3) (hK.out _ _ ⟨PUT ha 3 hb, HM⟩)
           refine SY ?_ ?_
           ·intro b a w ha HM hb hon hoff K hK
            exact VL (.bool true) (hK.out _ _ ⟨PUT ha 4 hb, HM⟩)
           exact steps_nil
          rintro _ w67 ⟨rfl, HM⟩
          replace HM := HM.sT 4 rfl rfl
          simp only [putSel, if_true, Act.put, List.setIfInBounds_toArray, List.set_cons_zero, List.set_cons_succ, gt_iff_lt, ge_iff_le]
          simp only [Option.some.injEq, Prod.mk.injEq] at H
          obtain ⟨rfl, rfl, rfl, rfl, rfl, rfl, rfl⟩ := H
          go_wp2
          refine bodyPost_ret (results_ctt rfl _ _ gb202 65 #[.int .i64 a0_0, .int .i64 a0_1, .slice Xo5 l0_2.length ko5, .slice (some ⟨go59, 0, none⟩) l0_3.length ko6, .slice Xo7 l0_4.length ko7] (0, 0) _ rfl (HM.bx 4 rfl) Try.underlying65 rfl (by kernel_rfl)) rfl ?_
          exact ⟨_, _, _, ER, (MD HM).pick [0, 1, 2]⟩
        ·subst c39
         go_upto_if 52 with (fail)
         replace H := IT H; rcases H with ⟨c68, H⟩ | ⟨c68, H⟩
         ·have c68b0 : decide (0 ≤ t203) = true := decide_eq_true c68
          clear c68
          (first | rw [c68b0] | (simp only [i64_w, i32_w]; rw [c68b0]) | skip)
          replace H := GD H; obtain ⟨c71, H⟩ := H
          have c71b0 : decide (0 ≤ t203) = true := decide_eq_true c71
          clear c71
          replace H := GD H; obtain ⟨c72, H⟩ := H
          have c72b0 : decide (t203 < (l0_2.length : Int)) = true := decide_eq_true c72
          clear c72
          obtain ⟨z69_0, z69_1, z69_2, z69_3, z69_4, Z69_0, Z69_1, Z69_2, Z69_3, Z69_4⟩ := bk5 (HM.bx 3 rfl)
          obtain ⟨z70_0, z70_1, z70_2, Z70_0, Z70_1, Z70_2⟩ := bk3 (HM.bx 5 rfl)
          have p73 : 0 ≤ (t203 : Int) := of_decide_eq_true AS
          have q73 : (t203 : Int) < ((l0_2.length : Int) : Int) := of_decide_eq_true AS
          obtain ⟨go73, ef73⟩ := HM.form 0 rfl (by have h_ := (HM.CR 0 rfl).1; omega)
          subst ef73
          obtain ⟨hx73_0, hx73_1, hx73_2, hf73_0, hf73_1, hf73_2⟩ := HM.el3 0 rfl z76 (t203 : Int) p73 (by have h_ := (HM.CR 0 rfl).1; omega) (.string ((rd_T76 l0_2 t203).f0)) (.string ((rd_T76 l0_2 t203).f1)) (.int .i64 ((rd_T76 l0_2 t203).f2)) (fun _ _ h => k76_openM h)
          replace p73 := eq_true p73
          replace q73 := eq_true q73
          try go_wp2_with (first | ((with_reducible refine gS 57 rfl ?_); refine pPR 0 57 (t203 : Int) 0 [.string x206000_23, .string x206001_23, .int .i64 t208] k76 76 l0_2 (⟨x206000_23, x206001_23, t208⟩ : S76) z76 [.string ((rd_T76 l0_2 t203).f0), .string ((rd_T76 l0_2 t203).f1), .int .i64 ((rd_T76 l0_2 t203).f2)] HM rfl rfl (of_decide_eq_true AS) (by have h_ : (t203 : Int) < ((l0_2.length : Int) : Int) := of_decide_eq_true AS; have e_ := (HM.CR 0 rfl).1; omega) (fun _ _ h => k76_openM h) (k76_mkM _ _ _ (⟨x206000_23, x206001_23, t208⟩ : S76)) ?_; clear HM; intro w74 HM))
          refine RGN 6 [0, 1, 2, 3, 4, 5] (fun a0 b a w' => a = putSel a0 b [(0, 63, .agg #[.int .i64 a0_0, .int .i64 a0_1, .slice (some ⟨go73, 0, none⟩) l0_2.length ko5, .slice Xo6 l0_3.length ko6, .slice Xo7 l0_4.length ko7]), (1, 64, .pointer (some ⟨gb205, 1, none⟩)), (2, 65, .string x206001_23), (4, 9, .string x206001_23), (5, 10, .bool true)] ∧ Mem w0 F w' [rowR k76 76 (.slice (some ⟨go73, 0, none⟩) l0_2.length ko5) (l0_2.set (t203 : Int).toNat (⟨x206000_23, x206001_23, t208⟩ : S76)), rowR k76 76 (.slice Xo6 l0_3.length ko6) l0_3, rowR (Kd.int .i64) 3 (.slice Xo7 l0_4.length ko7) l0_4, box 65 gb201 [.int .i64 a0_0, .int .i64 a0_1, .slice (some ⟨go73, 0, none⟩) l0_2.length ko5, .slice Xo6 l0_3.length ko6, .slice Xo7 l0_4.length ko7], sel (b 3) (box 65 gb202 [.int .i64 a0_0, .int .i64 a0_1, .slice (some ⟨go73, 0, none⟩) l0_2.length ko5, .slice Xo6 l0_3.length ko6, .slice Xo7 l0_4.length ko7]) (box 65 gb202 [.int .i64 0, .int .i64 0, .slice none 0 0, .slice none 0 0, .slice none 0 0]), box 76 gb205 [.string x206000_23, .string x206001_23, .int .i64 t208]]) spec_l10Touch.tab16 spec_l10Touch.bits16 ?_ ?_ ?_
          ·exact ⟨PS0' rfl _, (HM.drew).pick [0, 1, 2, 3, 4, 5]⟩
          ·clear HM
           refine SY ?_ ?_
           ·intro b a w ha HM hb hon hoff K hK
            obtain ⟨z78_0, z78_1, z78_2, z78_3, z78_4, Z78_0, Z78_1, Z78_2, Z78_3, Z78_4⟩ := bk5 (HM.bx 3 rfl)
            have e4 := PG ha 4
            exact VL (.agg #[.int .i64 a0_0, .int .i64 a0_1, .slice (some ⟨go73, 0, none⟩) l0_2.length ko5, .slice Xo6 l0_3.length ko6, .slice Xo7 l0_4.length ko7]) (hK.out _ _ ⟨PUT ha 0 hb, HM⟩)
           refine SY ?_ ?_
           ·intro b a w ha HM hb hon hoff K hK
            have e13 := PG ha 13
            exact VL (.pointer (some ⟨gb205, 1, none⟩)) (hK.out _ _ ⟨PUT ha 1 hb, HM⟩)
           refine SY ?_ ?_
           ·intro b a w ha HM hb hon hoff K hK
            obtain ⟨z79_0, z79_1, z79_2, Z79_0, Z79_1, Z79_2⟩ := bk3 (HM.bx 5 rfl)
            have e64 := PE ha 1 hon
            exact VL (.string x206001_23) (hK.out _ _ ⟨PUT ha 2 hb, HM⟩)
           refine SY ?_ ?_
           ·intro b a w ha HM hb hon hoff K hK
            replace HM := HM.sF 4 rfl hb
            have e8 := PG ha 8
            have e63 := PE ha 0 hon
            refine ST (eS 4 8 0 [.int .i64 a0_0, .int .i64 a0_1, .slice (some ⟨go73, 0, none⟩) l0_2.length ko5, .slice Xo6 l0_3.length ko6, .slice Xo7 l0_4.length ko7] HM rfl rfl ?_ (hp := (eval_of e8)) (hx := (by rw [eval_of e63]; rfl)))
            clear HM
            intro w80 HM
            exact hK.out _ _ ⟨PUS ha, (HM).pick [0, 1, 2, 3, 4, 5]⟩
           refine SY ?_ ?_
           ·intro b a w ha HM hb hon hoff K hK
            have e65 := PE ha 2 hon
            exact VL (.string x206001_23) (hK.out _ _ ⟨PUT ha 3 hb, HM⟩)
           refine SY ?_ ?_
           ·intro b a w ha HM hb hon hoff K hK
            exact VL (.bool true) (hK.out _ _ ⟨PUT ha 4 hb, HM⟩)
           exact steps_nil
          rintro _ w81 ⟨rfl, HM⟩
          replace HM := HM.sT 4 rfl rfl
          simp only [putSel, if_true, Act.put, List.setIfInBounds_toArray, List.set_cons_zero, List.set_cons_succ, gt_iff_lt, ge_iff_le]
          simp only [Option.some.injEq, Prod.mk.injEq] at H
          obtain ⟨rfl, rfl, rfl, rfl, rfl, rfl, rfl⟩ := H
          go_wp2
          refine bodyPost_ret (results_ctt rfl _ _ gb202 65 #[.int .i64 a0_0, .int .i64 a0_1, .slice (some ⟨go73, 0, none⟩) l0_2.length ko5, .slice Xo6 l0_3.length ko6, .slice Xo7 l0_4.length ko7] (0, 0) _ rfl (HM.bx 4 rfl) Try.underlying65 rfl (by kernel_rfl)) rfl ?_
          exact ⟨_, _, _, ER, (MD HM).pick [0, 1, 2]⟩
         ·have c68b0 : decide (0 ≤ t203) = false := decide_eq_false c68
          clear c68
          (first | rw [c68b0] | (simp only [i64_w, i32_w]; rw [c68b0]) | skip)
          replace H := GD H; obtain ⟨c84, H⟩ := H
          have c84b0 : decide (0 ≤ t204) = true := decide_eq_true c84
          clear c84
          replace H := GD H; obtain ⟨c85, H⟩ := H
          have c85b0 : decide (t204 < (l0_3.length : Int)) = true := decide_eq_true c85
          clear c85
          obtain ⟨z82_0, z82_1, z82_2, z82_3, z82_4, Z82_0, Z82_1, Z82_2, Z82_3, Z82_4⟩ := bk5 (HM.bx 3 rfl)
          obtain ⟨z83_0, z83_1, z83_2, Z83_0, Z83_1, Z83_2⟩ := bk3 (HM.bx 5 rfl)
          have p86 : 0 ≤ (t204 : Int) := of_decide_eq_true AS
          have q86 : (t204 : Int) < ((l0_3.length : Int) : Int) := of_decide_eq_true AS
          obtain ⟨go86, ef86⟩ := HM.form 1 rfl (by have h_ := (HM.CR 1 rfl).1; omega)
          subst ef86
          obtain ⟨hx86_0, hx86_1, hx86_2, hf86_0, hf86_1, hf86_2⟩ := HM.el3 1 rfl z76 (t204 : Int) p86 (by have h_ := (HM.CR 1 rfl).1; omega) (.string ((rd_T76 l0_3 t204).f0)) (.string ((rd_T76 l0_3 t204).f1)) (.int .i64 ((rd_T76 l0_3 t204).f2)) (fun _ _ h => k76_openM h)
          replace p86 := eq_true p86
          replace q86 := eq_true q86
          try go_wp2_with (first | ((with_reducible refine gS 62 rfl ?_); refine pPR 1 62 (t204 : Int) 0 [.string x206000_23, .string x206001_23, .int .i64 t208] k76 76 l0_3 (⟨x206000_23, x206001_23, t208⟩ : S76) z76 [.string ((rd_T76 l0_3 t204).f0), .string ((rd_T76 l0_3 t204).f1), .int .i64 ((rd_T76 l0_3 t204).f2)] HM rfl rfl (of_decide_eq_true AS) (by have h_ : (t204 : Int) < ((l0_3.length : Int) : Int) := of_decide_eq_true AS; have e_ := (HM.CR 1 rfl).1; omega) (fun _ _ h => k76_openM h) (k76_mkM _ _ _ (⟨x206000_23, x206001_23, t208⟩ : S76)) ?_; clear HM; intro w87 HM))
          refine RGN 6 [0, 1, 2, 3, 4, 5] (fun a0 b a w' => a = putSel a0 b [(0, 63, .agg #[.int .i64 a0_0, .int .i64 a0_1, .slice Xo5 l0_2.length ko5, .slice (some ⟨go86, 0, none⟩) l0_3.length ko6, .slice Xo7 l0_4.length ko7]), (1, 64, .pointer (some ⟨gb205, 1, none⟩)), (2, 65, .string x206001_23), (4, 9, .string x206001_23), (5, 10, .bool true)] ∧ Mem w0 F w' [rowR k76 76 (.slice Xo5 l0_2.length ko5) l0_2, rowR k76 76 (.slice (some ⟨go86, 0, none⟩) l0_3.length ko6) (l0_3.set (t204 : Int).toNat (⟨x206000_23, x206001_23, t208⟩ : S76)), rowR (Kd.int .i64) 3 (.slice Xo7 l0_4.length ko7) l0_4, box 65 gb201 [.int .i64 a0_0, .int .i64 a0_1, .slice Xo5 l0_2.length ko5, .slice (some ⟨go86, 0, none⟩) l0_3.length ko6, .slice Xo7 l0_4.length ko7], sel (b 3) (box 65 gb202 [.int .i64 a0_0, .int .i64 a0_1, .slice Xo5 l0_2.length ko5, .slice (some ⟨go86, 0, none⟩) l0_3.length ko6, .slice Xo7 l0_4.length ko7]) (box 65 gb202 [.int .i64 0, .int .i64 0, .slice none 0 0, .slice none 0 0, .slice none 0 0]), box 76 gb205 [.string x206000_23, .string x206001_23, .int .i64 t208]]) spec_l10Touch.tab16 spec_l10Touch.bits16 ?_ ?_ ?_
          ·exact ⟨PS0' rfl _, (HM.drew).pick [0, 1, 2, 3, 4, 5]⟩
          ·clear HM
           refine SY ?_ ?_
           ·intro b a w ha HM hb hon hoff K hK
            obtain ⟨z91_0, z91_1, z91_2, z91_3, z91_4, Z91_0, Z91_1, Z91_2, Z91_3, Z91_4⟩ := bk5 (HM.bx 3 rfl)
            have e4 := PG ha 4
            exact VL (.agg #[.int .i64 a0_0, .int .i64 a0_1, .slice Xo5 l0_2.length ko5, .slice (some ⟨go86, 0, none⟩) l0_3.length ko6, .slice Xo7 l0_4.length ko7]) (hK.out _ _ ⟨PUT ha 0 hb, HM⟩)
           refine SY ?_ ?_
           ·intro b a w ha HM hb hon hoff K hK
            have e13 := PG ha 13
            exact VL (.pointer (some ⟨gb205, 1, none⟩)) (hK.out _ _ ⟨PUT ha 1 hb, HM⟩)
           refine SY ?_ ?_
           ·intro b a w ha HM hb hon hoff K hK
            obtain ⟨z92_0, z92_1, z92_2, Z92_0, Z92_1, Z92_2⟩ := bk3 (HM.bx 5 rfl)
            have e64 := PE ha 1 hon
            exact VL (.string x206001_23) (hK.out _ _ ⟨PUT ha 2 hb, HM⟩)
           refine SY ?_ ?_
           ·intro b a w ha HM hb hon hoff K hK
            replace HM := HM.sF 4 rfl hb
            have e8 := PG ha 8
            have e63 := PE ha 0 hon
            refine ST (eS 4 8 0 [.int .i64 a0_0, .int .i64 a0_1, .slice Xo5 l0_2.length ko5, .slice (some ⟨go86, 0, none⟩) l0_3.length ko6, .slice Xo7 l0_4.length ko7] HM rfl rfl ?_ (hp := (eval_of e8)) (hx := (by rw [eval_of e63]; rfl)))
            clear HM
            intro w93 HM
            exact hK.out _ _ ⟨PUS ha, (HM).pick [0, 1, 2, 3, 4, 5]⟩
           refine SY ?_ ?_
           ·intro b a w ha HM hb hon hoff K hK
            have e65 := PE ha 2 hon
            exact VL (.string x206001_23) (hK.out _ _ ⟨PUT ha 3 hb, HM⟩)
           refine SY ?_ ?_
           ·intro b a w ha HM hb hon hoff K hK
            exact VL (.bool true) (hK.out _ _ ⟨PUT ha 4 hb, HM⟩)
           exact steps_nil
          rintro _ w94 ⟨rfl, HM⟩
          replace HM := HM.sT 4 rfl rfl
          simp only [putSel, if_true, Act.put, List.setIfInBounds_toArray, List.set_cons_zero, List.set_cons_succ, gt_iff_lt, ge_iff_le]
          simp only [Option.some.injEq, Prod.mk.injEq] at H
          obtain ⟨rfl, rfl, rfl, rfl, rfl, rfl, rfl⟩ := H
          go_wp2
          refine bodyPost_ret (results_ctt rfl _ _ gb202 65 #[.int .i64 a0_0, .int .i64 a0_1, .slice Xo5 l0_2.length ko5, .slice (some ⟨go86, 0, none⟩) l0_3.length ko6, .slice Xo7 l0_4.length ko7] (0, 0) _ rfl (HM.bx 4 rfl) Try.underlying65 rfl (by kernel_rfl)) rfl ?_
          exact ⟨_, _, _, ER, (MD HM).pick [0, 1, 2]⟩
def spec_l10Copy.f (a0_0 : Int) (a0_1 : Int) (l0_2 : List (S76)) (l0_3 : List (S76)) (l0_4 : List Int) : Option (Int × Int × (List (S76)) × (List (S76)) × List Int) := (some (([] : List (S76)) : List (S76))).bind fun y215 => (if y215.length + l0_2.length < 3518437208883 then ((some (([] : List (S76)) : List (S76))).bind fun y221 => (if y221.length + l0_3.length < 3518437208883 then ((some (([] : List Int) : List Int)).bind fun y227 => (if y227.length + l0_4.length < 17592186044416 then (some (a0_0, a0_1, (y215 ++ l0_2), (y221 ++ l0_3), (y227 ++ l0_4))) else (none))) else (none))) else (none))
def spec_l10Copy.T1 : Bool × List (List Nat × List Nat) := (true, [([], []), ([0], [0]), ([], []), ([2], [2]), ([], []), ([], []), ([5], [5]), ([4, 6], [4, 6]), ([], []), ([], []), ([9], [9]), ([8, 10, 7], [8, 10]), ([], []), ([], []), ([13], [13]), ([12, 14, 11], [12, 14]), ([1, 3, 7, 11, 15], [1, 3, 7, 11, 15]), ([16, 15, 0, 1, 2, 3, 4, 5, 6, 7, 8, 9, 10, 11, 12, 13, 14, 15, 16], [16])])
def spec_l10Copy.B1 : List Nat := [0, 1, 0, 4, 0, 0, 32, 112, 0, 0, 512, 2032, 0, 0, 8192, 32752, 65535, 131071]
theorem spec_l10Copy.tab1 : rtab .any (opsOf Try.f109 1) = spec_l10Copy.T1 := by kernel_rfl
theorem spec_l10Copy.bits1 : waitsOk spec_l10Copy.T1.2 spec_l10Copy.B1 = true := by kernel_rfl
set_option maxHeartbeats 8000000 in
set_option maxRecDepth 100000 in
theorem spec_l10Copy.calls (a0_0 : Int) (a0_1 : Int) (A0_2 : Option Addr) (c0_2 : Nat) (l0_2 : List (S76)) (A0_3 : Option Addr) (c0_3 : Nat) (l0_3 : List (S76)) (A0_4 : Option Addr) (c0_4 : Nat) (l0_4 : List Int) (r1 : Int) (r2 : Int) (r3 : List (S76)) (r4 : List (S76)) (r5 : List Int) (w : World) (hr0_2 : Kd.C k76 w A0_2 l0_2.length l0_2) (hc0_2 : l0_2.length ≤ c0_2) (hr0_3 : Kd.C k76 w A0_3 l0_3.length l0_3) (hc0_3 : l0_3.length ≤ c0_3) (hr0_4 : Kd.C (Kd.int .i64) w A0_4 l0_4.length l0_4) (hc0_4 : l0_4.length ≤ c0_4) (h : spec_l10Copy.f a0_0 a0_1 l0_2 l0_3 l0_4 = some (r1, r2, r3, r4, r5)) :
  Calls Try.prog 109 #[.agg #[.int .i64 a0_0, .int .i64 a0_1, .slice A0_2 l0_2.length c0_2, .slice A0_3 l0_3.length c0_3, .slice A0_4 l0_4.length c0_4]] w fun e w' => ∃ v2_ v3_ v4_ : Value, e = .returned (.agg #[.int .i64 r1, .int .i64 r2, v2_, v3_, v4_]) ∧ Mem w [] w' [rowR k76 76 v2_ r3, rowR k76 76 v3_ r4, rowR (Kd.int .i64) 3 v4_ r5] := by
 have hu65 := Try.underlying65
 have HR0_2 := Aside0.mk hr0_2
 have HC0_2 := Aside0.mk hc0_2
 clear hr0_2 hc0_2
 have HR0_3 := Aside0.mk hr0_3
 have HC0_3 := Aside0.mk hc0_3
 clear hr0_3 hc0_3
 have HR0_4 := Aside0.mk hr0_4
 have HC0_4 := Aside0.mk hc0_4
 clear hr0_4 hc0_4
 have HM := Mem.nil w
 have H := h
 clear h
 unfold spec_l10Copy.f at H
 go_enter Try.func109, Try.ntmps109
 try go_wp2_with (first | ((with_reducible refine gN 1 rfl ?_); refine pB 1 65 [.int .i64 a0_0, .int .i64 a0_1, .slice A0_2 l0_2.length c0_2, .slice A0_3 l0_3.length c0_3, .slice A0_4 l0_4.length c0_4] HM rfl ?_; clear HM; intro gb213 w2 HM) | ((with_reducible refine gN 2 rfl ?_); refine pB 2 65 [.int .i64 0, .int .i64 0, .slice none 0 0, .slice none 0 0, .slice none 0 0] HM rfl ?_; clear HM; intro gb214 w3 HM))
 replace H := BLt H; obtain ⟨y215, Ny215, H⟩ := H
 replace Ny215 := Aside0.mk Ny215
 replace H := GD H; obtain ⟨c4, H⟩ := H
 have LMc4 := Aside0.mk c4
 clear c4
 replace H := BLt H; obtain ⟨y221, Ny221, H⟩ := H
 replace Ny221 := Aside0.mk Ny221
 replace H := GD H; obtain ⟨c5, H⟩ := H
 have LMc5 := Aside0.mk c5
 clear c5
 replace H := BLt H; obtain ⟨y227, Ny227, H⟩ := H
 replace Ny227 := Aside0.mk Ny227
 replace H := GD H; obtain ⟨c6, H⟩ := H
 have LMc6 := Aside0.mk c6
 clear c6
 refine RGN 18 [0, 1, 2, 3, 4, 5, 6, 7, 8, 9, 10, 11, 12, 13, 14, 15, 16, 17] (fun a0 b a w' => ∃ (v216 : Value) (v219 : Value) (v222 : Value) (v225 : Value) (v228 : Value) (v231 : Value), a = putSel a0 b [(0, 3, .pointer (some ⟨gb213, 0, none⟩)), (1, 4, .int .i64 a0_0), (2, 5, .pointer (some ⟨gb213, 1, none⟩)), (3, 6, .int .i64 a0_1), (4, 7, v216), (5, 8, .pointer (some ⟨gb213, 2, none⟩)), (6, 9, .slice A0_2 l0_2.length c0_2), (7, 10, v219), (8, 11, v222), (9, 12, .pointer (some ⟨gb213, 3, none⟩)), (10, 13, .slice A0_3 l0_3.length c0_3), (11, 14, v225), (12, 15, v228), (13, 16, .pointer (some ⟨gb213, 4, none⟩)), (14, 17, .slice A0_4 l0_4.length c0_4), (15, 18, v231), (16, 19, .agg #[.int .i64 a0_0, .int .i64 a0_1, v219, v225, v231])] ∧ Mem w [] w' [box 65 gb213 [.int .i64 a0_0, .int .i64 a0_1, .slice A0_2 l0_2.length c0_2, .slice A0_3 l0_3.length c0_3, .slice A0_4 l0_4.length c0_4], sel (b 17) (box 65 gb214 [.int .i64 a0_0, .int .i64 a0_1, v219, v225, v231]) (box 65 gb214 [.int .i64 0, .int .i64 0, .slice none 0 0, .slice none 0 0, .slice none 0 0]), sel (b 7) (rowR k76 76 v219 (y215 ++ l0_2)) (sel (b 4) (rowR k76 76 v216 y215) (emp)), sel (b 11) (rowR k76 76 v225 (y221 ++ l0_3)) (sel (b 8) (rowR k76 76 v222 y221) (emp)), sel (b 15) (rowR (Kd.int .i64) 3 v231 (y227 ++ l0_4)) (sel (b 12) (rowR (Kd.int .i64) 3 v228 y227) (emp))]) spec_l10Copy.tab1 spec_l10Copy.bits1 ?_ ?_ ?_
 ·exact ⟨.bool false, .bool false, .bool false, .bool false, .bool false, .bool false, PS0' rfl _, (HM.drew.ems 3).pick [0, 1, 2, 3, 4]⟩
 ·clear HM
  refine steps_cons ?_ ?_
  ·rintro b a w ⟨v216, v219, v222, v225, v228, v231, ha, HM⟩ hb hon hoff
   refine ⟨_, rfl, fun K hK => ?_⟩
   replace ha := Aside0.mk ha
   have e1 := PG ha 1
   exact VL (.pointer (some ⟨gb213, 0, none⟩)) (hK.out _ _ ⟨v216, v219, v222, v225, v228, v231, PUT ha 0 hb, HM⟩)
  refine steps_cons ?_ ?_
  ·rintro b a w ⟨v216, v219, v222, v225, v228, v231, ha, HM⟩ hb hon hoff
   refine ⟨_, rfl, fun K hK => ?_⟩
   replace ha := Aside0.mk ha
   obtain ⟨z25_0, z25_1, z25_2, z25_3, z25_4, Z25_0, Z25_1, Z25_2, Z25_3, Z25_4⟩ := bk5 (HM.bx 0 rfl)
   have e3 := PE ha 0 hon
   exact VL (.int .i64 a0_0) (hK.out _ _ ⟨v216, v219, v222, v225, v228, v231, PUT ha 1 hb, HM⟩)
  refine steps_cons ?_ ?_
  ·rintro b a w ⟨v216, v219, v222, v225, v228, v231, ha, HM⟩ hb hon hoff
   refine ⟨_, rfl, fun K hK => ?_⟩
   replace ha := Aside0.mk ha
   have e1 := PG ha 1
   exact VL (.pointer (some ⟨gb213, 1, none⟩)) (hK.out _ _ ⟨v216, v219, v222, v225, v228, v231, PUT ha 2 hb, HM⟩)
  refine steps_cons ?_ ?_
  ·rintro b a w ⟨v216, v219, v222, v225, v228, v231, ha, HM⟩ hb hon hoff
   refine ⟨_, rfl, fun K hK => ?_⟩
   replace ha := Aside0.mk ha
   obtain ⟨z26_0, z26_1, z26_2, z26_3, z26_4, Z26_0, Z26_1, Z26_2, Z26_3, Z26_4⟩ := bk5 (HM.bx 0 rfl)
   have e5 := PE ha 2 hon
   exact VL (.int .i64 a0_1) (hK.out _ _ ⟨v216, v219, v222, v225, v228, v231, PUT ha 3 hb, HM⟩)
  refine steps_cons ?_ ?_
  ·rintro b a w ⟨v216, v219, v222, v225, v228, v231, ha, HM⟩ hb hon hoff
   refine ⟨_, rfl, fun K hK => ?_⟩
   replace ha := Aside0.mk ha
   refine ST (eL 7 k76 76 ([] : List (S76)) [] (Reps.none _ _) HM rfl ?_)
   clear HM
   intro v216 w27 HM
   replace HM := HM.nm 5 rfl Ny215.out
   exact hK.out _ _ ⟨v216, v219, v222, v225, v228, v231, PUT ha 4 hb, (HM.iF 5 rfl (hoff 7 (by kernel_rfl))).pick [0, 1, 5, 3, 4]⟩
  refine steps_cons ?_ ?_
  ·rintro b a w ⟨v216, v219, v222, v225, v228, v231, ha, HM⟩ hb hon hoff
   refine ⟨_, rfl, fun K hK => ?_⟩
   replace ha := Aside0.mk ha
   have e1 := PG ha 1
   exact VL (.pointer (some ⟨gb213, 2, none⟩)) (hK.out _ _ ⟨v216, v219, v222, v225, v228, v231, PUT ha 5 hb, HM⟩)
  refine steps_cons ?_ ?_
  ·rintro b a w ⟨v216, v219, v222, v225, v228, v231, ha, HM⟩ hb hon hoff
   refine ⟨_, rfl, fun K hK => ?_⟩
   replace ha := Aside0.mk ha
   obtain ⟨z28_0, z28_1, z28_2, z28_3, z28_4, Z28_0, Z28_1, Z28_2, Z28_3, Z28_4⟩ := bk5 (HM.bx 0 rfl)
   have e8 := PE ha 5 hon
   exact VL (.slice A0_2 l0_2.length c0_2) (hK.out _ _ ⟨v216, v219, v222, v225, v228, v231, PUT ha 6 hb, HM⟩)
  refine steps_cons ?_ ?_
  ·rintro b a w ⟨v216, v219, v222, v225, v228, v231, ha, HM⟩ hb hon hoff
   refine ⟨_, rfl, fun K hK => ?_⟩
   replace ha := Aside0.mk ha
   replace HM := (HM.sF 2 rfl hb).sT 2 rfl (hon 4 (by kernel_rfl))
   have e7 := PE ha 4 hon
   have e9 := PE ha 6 hon
   refine ST (eA 2 (.tmp 7) (.tmp 9) 44 76 k76 v216 y215 l0_2 A0_2 l0_2.length c0_2 HM rfl Try.underlying44 info76 rfl (HM.came HR0_2.out) (by have h_ := LMc4.out; omega) ?_ (ops := #[]) (hw := by rfl) (hs := (eval_of e7)) (hx := (eval_of e9)))
   clear HM
   intro v219 w29 HM
   exact hK.out _ _ ⟨v216, v219, v222, v225, v228, v231, PUT (PCH ha 16 (hoff 16 (by kernel_rfl))) 7 hb, ((HM.sF 1 rfl (hoff 17 (by kernel_rfl))).iF 1 rfl (hoff 17 (by kernel_rfl))).pick [0, 1, 2, 3, 4]⟩
  refine steps_cons ?_ ?_
  ·rintro b a w ⟨v216, v219, v222, v225, v228, v231, ha, HM⟩ hb hon hoff
   refine ⟨_, rfl, fun K hK => ?_⟩
   replace ha := Aside0.mk ha
   refine ST (eL 11 k76 76 ([] : List (S76)) [] (Reps.none _ _) HM rfl ?_)
   clear HM
   intro v222 w30 HM
   replace HM := HM.nm 5 rfl Ny221.out
   exact hK.out _ _ ⟨v216, v219, v222, v225, v228, v231, PUT ha 8 hb, (HM.iF 5 rfl (hoff 11 (by kernel_rfl))).pick [0, 1, 2, 5, 4]⟩
  refine steps_cons ?_ ?_
  ·rintro b a w ⟨v216, v219, v222, v225, v228, v231, ha, HM⟩ hb hon hoff
   refine ⟨_, rfl, fun K hK => ?_⟩
   replace ha := Aside0.mk ha
   have e1 := PG ha 1
   exact VL (.pointer (some ⟨gb213, 3, none⟩)) (hK.out _ _ ⟨v216, v219, v222, v225, v228, v231, PUT ha 9 hb, HM⟩)
  refine steps_cons ?_ ?_
  ·rintro b a w ⟨v216, v219, v222, v225, v228, v231, ha, HM⟩ hb hon hoff
   refine ⟨_, rfl, fun K hK => ?_⟩
   replace ha := Aside0.mk ha
   obtain ⟨z31_0, z31_1, z31_2, z31_3, z31_4, Z31_0, Z31_1, Z31_2, Z31_3, Z31_4⟩ := bk5 (HM.bx 0 rfl)
   have e12 := PE ha 9 hon
   exact VL (.slice A0_3 l0_3.length c0_3) (hK.out _ _ ⟨v216, v219, v222, v225, v228, v231, PUT ha 10 hb, HM⟩)
  refine steps_cons ?_ ?_
  ·rintro b a w ⟨v216, v219, v222, v225, v228, v231, ha, HM⟩ hb hon hoff
   refine ⟨_, rfl, fun K hK => ?_⟩
   replace ha := Aside0.mk ha
   replace HM := (HM.sF 3 rfl hb).sT 3 rfl (hon 8 (by kernel_rfl))
   have e11 := PE ha 8 hon
   have e13 := PE ha 10 hon
   refine ST (eA 3 (.tmp 11) (.tmp 13) 44 76 k76 v222 y221 l0_3 A0_3 l0_3.length c0_3 HM rfl Try.underlying44 info76 rfl (HM.came HR0_3.out) (by have h_ := LMc5.out; omega) ?_ (ops := #[]) (hw := by rfl) (hs := (eval_of e11)) (hx := (eval_of e13)))
   clear HM
   intro v225 w32 HM
   exact hK.out _ _ ⟨v216, v219, v222, v225, v228, v231, PUT (PCH ha 16 (hoff 16 (by kernel_rfl))) 11 hb, ((HM.sF 1 rfl (hoff 17 (by kernel_rfl))).iF 1 rfl (hoff 17 (by kernel_rfl))).pick [0, 1, 2, 3, 4]⟩
  refine steps_cons ?_ ?_
  ·rintro b a w ⟨v216, v219, v222, v225, v228, v231, ha, HM⟩ hb hon hoff
   refine ⟨_, rfl, fun K hK => ?_⟩
   replace ha := Aside0.mk ha
   refine ST (eL 15 (Kd.int .i64) 3 ([] : List Int) [] (Reps.none _ _) HM rfl ?_)
   clear HM
   intro v228 w33 HM
   replace HM := HM.nm 5 rfl Ny227.out
   exact hK.out _ _ ⟨v216, v219, v222, v225, v228, v231, PUT ha 12 hb, (HM.iF 5 rfl (hoff 15 (by kernel_rfl))).pick [0, 1, 2, 3, 5]⟩
  refine steps_cons ?_ ?_
  ·rintro b a w ⟨v216, v219, v222, v225, v228, v231, ha, HM⟩ hb hon hoff
   refine ⟨_, rfl, fun K hK => ?_⟩
   replace ha := Aside0.mk ha
   have e1 := PG ha 1
   exact VL (.pointer (some ⟨gb213, 4, none⟩)) (hK.out _ _ ⟨v216, v219, v222, v225, v228, v231, PUT ha 13 hb, HM⟩)
  refine steps_cons ?_ ?_
  ·rintro b a w ⟨v216, v219, v222, v225, v228, v231, ha, HM⟩ hb hon hoff
   refine ⟨_, rfl, fun K hK => ?_⟩
   replace ha := Aside0.mk ha
   obtain ⟨z34_0, z34_1, z34_2, z34_3, z34_4, Z34_0, Z34_1, Z34_2, Z34_3, Z34_4⟩ := bk5 (HM.bx 0 rfl)
   have e16 := PE ha 13 hon
   exact VL (.slice A0_4 l0_4.length c0_4) (hK.out _ _ ⟨v216, v219, v222, v225, v228, v231, PUT ha 14 hb, HM⟩)
  refine steps_cons ?_ ?_
  ·rintro b a w ⟨v216, v219, v222, v225, v228, v231, ha, HM⟩ hb hon hoff
   refine ⟨_, rfl, fun K hK => ?_⟩
   replace ha := Aside0.mk ha
   replace HM := (HM.sF 4 rfl hb).sT 4 rfl (hon 12 (by kernel_rfl))
   have e15 := PE ha 12 hon
   have e17 := PE ha 14 hon
   refine ST (eA 4 (.tmp 15) (.tmp 17) 60 3 (Kd.int .i64) v228 y227 l0_4 A0_4 l0_4.length c0_4 HM rfl Try.underlying60 info3 rfl (HM.came HR0_4.out) (by have h_ := LMc6.out; omega) ?_ (ops := #[]) (hw := by rfl) (hs := (eval_of e15)) (hx := (eval_of e17)))
   clear HM
   intro v231 w35 HM
   exact hK.out _ _ ⟨v216, v219, v222, v225, v228, v231, PUT (PCH ha 16 (hoff 16 (by kernel_rfl))) 15 hb, ((HM.sF 1 rfl (hoff 17 (by kernel_rfl))).iF 1 rfl (hoff 17 (by kernel_rfl))).pick [0, 1, 2, 3, 4]⟩
  refine steps_cons ?_ ?_
  ·rintro b a w ⟨v216, v219, v222, v225, v228, v231, ha, HM⟩ hb hon hoff
   refine ⟨_, rfl, fun K hK => ?_⟩
   replace ha := Aside0.mk ha
   have HZ := HM
   replace HM := HM.sT 2 rfl (hon 7 (by kernel_rfl))
   replace HM := HM.sT 3 rfl (hon 11 (by kernel_rfl))
   replace HM := HM.sT 4 rfl (hon 15 (by kernel_rfl))
   obtain ⟨Xo36, ko36, eo36⟩ := HM.rdR 4 rfl
   subst eo36
   obtain ⟨Xo37, ko37, eo37⟩ := HM.rdR 3 rfl
   subst eo37
   obtain ⟨Xo38, ko38, eo38⟩ := HM.rdR 2 rfl
   subst eo38
   have e4 := PE ha 1 hon
   have e6 := PE ha 3 hon
   have e10 := PE ha 7 hon
   have e14 := PE ha 11 hon
   have e18 := PE ha 15 hon
   exact VL (.agg #[.int .i64 a0_0, .int .i64 a0_1, .slice Xo38 (y215 ++ l0_2).length ko38, .slice Xo37 (y221 ++ l0_3).length ko37, .slice Xo36 (y227 ++ l0_4).length ko36]) (hK.out _ _ ⟨v216, .slice Xo38 (y215 ++ l0_2).length ko38, v222, .slice Xo37 (y221 ++ l0_3).length ko37, v228, .slice Xo36 (y227 ++ l0_4).length ko36, PUT ha 16 hb, HZ⟩)
  refine steps_cons ?_ ?_
  ·rintro b a w ⟨v216, v219, v222, v225, v228, v231, ha, HM⟩ hb hon hoff
   refine ⟨_, rfl, fun K hK => ?_⟩
   replace ha := Aside0.mk ha
   replace HM := HM.sF 1 rfl hb
   replace HM := HM.sT 2 rfl (hon 7 (by kernel_rfl))
   replace HM := HM.sT 3 rfl (hon 11 (by kernel_rfl))
   replace HM := HM.sT 4 rfl (hon 15 (by kernel_rfl))
   obtain ⟨Xo39, ko39, eo39⟩ := HM.rdR 2 rfl
   subst eo39
   obtain ⟨Xo40, ko40, eo40⟩ := HM.rdR 3 rfl
   subst eo40
   obtain ⟨Xo41, ko41, eo41⟩ := HM.rdR 4 rfl
   subst eo41
   have e2 := PG ha 2
   have e19 := PE ha 16 hon
   refine ST (eS 1 2 0 [.int .i64 a0_0, .int .i64 a0_1, .slice Xo39 (y215 ++ l0_2).length ko39, .slice Xo40 (y221 ++ l0_3).length ko40, .slice Xo41 (y227 ++ l0_4).length ko41] HM rfl rfl ?_ (hp := (eval_of e2)) (hx := (by rw [eval_of e19]; rfl)))
   clear HM
   intro w42 HM
   exact hK.out _ _ ⟨v216, .slice Xo39 (y215 ++ l0_2).length ko39, v222, .slice Xo40 (y221 ++ l0_3).length ko40, v228, .slice Xo41 (y227 ++ l0_4).length ko41, PUS ha, (((HM.iT 2 rfl (hon 7 (by kernel_rfl))).iT 3 rfl (hon 11 (by kernel_rfl))).iT 4 rfl (hon 15 (by kernel_rfl))).pick [0, 1, 2, 3, 4]⟩
  exact steps_nil
 rintro _ w43 ⟨v216, v219, v222, v225, v228, v231, rfl, HM⟩
 replace HM := HM.sT 1 rfl rfl
 replace HM := HM.sT 2 rfl rfl
 replace HM := HM.sT 3 rfl rfl
 replace HM := HM.sT 4 rfl rfl
 simp only [putSel, if_true, Act.put, List.setIfInBounds_toArray, List.set_cons_zero, List.set_cons_succ, gt_iff_lt, ge_iff_le]
 simp only [Option.some.injEq, Prod.mk.injEq] at H
 obtain ⟨rfl, rfl, rfl, rfl, rfl⟩ := H
 go_wp2
 refine bodyPost_ret (results_cell_row rfl _ _ gb214 65 #[.int .i64 a0_0, .int .i64 a0_1, v219, v225, v231] (0, 0) _ rfl (HM.bx 1 rfl) Try.underlying65 rfl (by kernel_rfl)) rfl ?_
 exact ⟨_, _, _, ER, (MD HM).pick [2, 3, 4]⟩
def spec_Get.f (k : Nat) (a0_0 : Int) (a0_1 : Int) (l0_2 : List (S76)) (l0_3 : List (S76)) (l0_4 : List Int) (a1 : ByteArray) : Option (Int × Int × (List (S76)) × (List (S76)) × List Int × ByteArray × Bool) := (spec_ThreeOk.f k a0_0 a0_1 l0_2 l0_3 l0_4).bind fun t235 => (if t235 = true then ((spec_l10Copy.f a0_0 a0_1 l0_2 l0_3 l0_4).bind fun bt236 => ((spec_l10Touch.f k bt236.1 bt236.2.1 bt236.2.2.1 bt236.2.2.2.1 bt236.2.2.2.2 a1 false (⟨#[]⟩ : ByteArray)).bind fun bt247 => (some (bt247.1, bt247.2.1, bt247.2.2.1, bt247.2.2.2.1, bt247.2.2.2.2.1, bt247.2.2.2.2.2.1, bt247.2.2.2.2.2.2)))) else (some (0, 0, ([] : List (S76)), ([] : List (S76)), ([] : List Int), (⟨#[]⟩ : ByteArray), false)))
set_option maxHeartbeats 8000000 in
set_option maxRecDepth 100000 in
theorem spec_Get.calls (k : Nat) (a0_0 : Int) (a0_1 : Int) (A0_2 : Option Addr) (c0_2 : Nat) (l0_2 : List (S76)) (A0_3 : Option Addr) (c0_3 : Nat) (l0_3 : List (S76)) (A0_4 : Option Addr) (c0_4 : Nat) (l0_4 : List Int) (a1 : ByteArray) (r1 : Int) (r2 : Int) (r3 : List (S76)) (r4 : List (S76)) (r5 : List Int) (r6 : ByteArray) (r7 : Bool) (w : World) (hr0_2 : Kd.C k76 w A0_2 l0_2.length l0_2) (hc0_2 : l0_2.length ≤ c0_2) (hr0_3 : Kd.C k76 w A0_3 l0_3.length l0_3) (hc0_3 : l0_3.length ≤ c0_3) (hr0_4 : Kd.C (Kd.int .i64) w A0_4 l0_4.length l0_4) (hc0_4 : l0_4.length ≤ c0_4) (h : spec_Get.f k a0_0 a0_1 l0_2 l0_3 l0_4 a1 = some (r1, r2, r3, r4, r5, r6, r7)) :
  Calls Try.prog 94 #[.agg #[.int .i64 a0_0, .int .i64 a0_1, .slice A0_2 l0_2.length c0_2, .slice A0_3 l0_3.length c0_3, .slice A0_4 l0_4.length c0_4], .string a1] w fun e w' => ∃ v2_ v3_ v4_ : Value, e = .returned (.tuple #[.agg #[.int .i64 r1, .int .i64 r2, v2_, v3_, v4_], .string r6, .bool r7]) ∧ Mem w [] w' [rowR k76 76 v2_ r3, rowR k76 76 v3_ r4, rowR (Kd.int .i64) 3 v4_ r5] := by
 have hu65 := Try.underlying65
 have HR0_2 := Aside0.mk hr0_2
 have HC0_2 := Aside0.mk hc0_2
 clear hr0_2 hc0_2
 have HR0_3 := Aside0.mk hr0_3
 have HC0_3 := Aside0.mk hc0_3
 clear hr0_3 hc0_3
 have HR0_4 := Aside0.mk hr0_4
 have HC0_4 := Aside0.mk hc0_4
 clear hr0_4 hc0_4
 have HM := Mem.nil w
 have H := h
 clear h
 unfold spec_Get.f at H
 go_enter Try.func94, Try.ntmps94
 replace H := BN H; obtain ⟨t235, A6, H⟩ := H
 go_upto_if 9 with (first | ((with_reducible refine gN 2 rfl ?_); refine pB 2 65 [.int .i64 a0_0, .int .i64 a0_1, .slice A0_2 l0_2.length c0_2, .slice A0_3 l0_3.length c0_3, .slice A0_4 l0_4.length c0_4] HM rfl ?_; clear HM; intro gb233 w3 HM) | ((with_reducible refine gN 4 rfl ?_); refine pB 4 65 [.int .i64 0, .int .i64 0, .slice none 0 0, .slice none 0 0, .slice none 0 0] HM rfl ?_; clear HM; intro gb234 w4 HM; obtain ⟨z5_0, z5_1, z5_2, z5_3, z5_4, Z5_0, Z5_1, Z5_2, Z5_3, Z5_4⟩ := bk5 (HM.bx 0 rfl)) | ((with_reducible refine gC 91 rfl ?_); refine pC (some 8) rfl #[.agg #[.int .i64 a0_0, .int .i64 a0_1, .slice A0_2 l0_2.length c0_2, .slice A0_3 l0_3.length c0_3, .slice A0_4 l0_4.length c0_4]] rfl Try.func91 (spec_ThreeOk.calls k a0_0 a0_1 _ _ l0_2 _ _ l0_3 _ _ l0_4 t235 _ (HM.came HR0_2.out) HC0_2.out (HM.came HR0_3.out) HC0_3.out (HM.came HR0_4.out) HC0_4.out A6.out) ?_; rintro e w7 ⟨rfl, hR⟩; refine ⟨_, rfl, ?_⟩; replace HM := HM.call hR; clear hR))
 replace HM := nzM HM
 replace H := IB H
 rcases H with ⟨c8, H⟩ | ⟨c8, H⟩
 ·subst c8
  replace H := BN H; obtain ⟨⟨t236, t237, t238, t241, t244⟩, A10, H⟩ := H
  replace H := BN H; obtain ⟨⟨t247, t248, t249, t252, t255, t258, t259⟩, A12, H⟩ := H
  simp only [Option.some.injEq, Prod.mk.injEq] at H
  obtain ⟨rfl, rfl, rfl, rfl, rfl, rfl, rfl⟩ := H
  obtain ⟨z9_0, z9_1, z9_2, z9_3, z9_4, Z9_0, Z9_1, Z9_2, Z9_3, Z9_4⟩ := bk5 (HM.bx 0 rfl)
  go_wp2_with (first | ((with_reducible refine gC 109 rfl ?_); refine pC (some 12) rfl #[.agg #[.int .i64 a0_0, .int .i64 a0_1, .slice A0_2 l0_2.length c0_2, .slice A0_3 l0_3.length c0_3, .slice A0_4 l0_4.length c0_4]] rfl Try.func109 (spec_l10Copy.calls a0_0 a0_1 _ _ l0_2 _ _ l0_3 _ _ l0_4 t236 t237 t238 t241 t244 _ (HM.came HR0_2.out) HC0_2.out (HM.came HR0_3.out) HC0_3.out (HM.came HR0_4.out) HC0_4.out A10.out) ?_; rintro e w11 ⟨v239, v242, v245, rfl, hR⟩; refine ⟨_, rfl, ?_⟩; replace HM := HM.call hR; clear hR) | ((with_reducible refine gC 108 rfl ?_); refine pC (some 14) rfl #[.agg #[.int .i64 t236, .int .i64 t237, v239, v242, v245], .string a1, .bool false, .string (⟨#[]⟩ : ByteArray)] rfl Try.func108 (spec_l10Touch.calls k t236 t237 v239 t238 v242 t241 v245 t244 a1 false (⟨#[]⟩ : ByteArray) t247 t248 t249 t252 t255 t258 t259 _ _ _ (HM.focus [0, 1] [2, 3, 4]) A12.out) ?_; rintro e w13 ⟨v250, v253, v256, rfl, hR⟩; refine ⟨_, rfl, ?_⟩; replace HM := nzM hR.unfocus; clear hR; obtain ⟨Xo14, ko14, eo14⟩ := HM.rdR 2 rfl; subst eo14; obtain ⟨Xo15, ko15, eo15⟩ := HM.rdR 3 rfl; subst eo15; obtain ⟨Xo16, ko16, eo16⟩ := HM.rdR 4 rfl; subst eo16) | ((with_reducible refine gS 4 rfl ?_); refine pS 1 4 0 [.int .i64 t247, .int .i64 t248, .slice Xo14 t249.length ko14, .slice Xo15 t252.length ko15, .slice Xo16 t255.length ko16] HM rfl rfl ?_; clear HM; intro w17 HM))
  refine bodyPost_ret (results_ctt rfl _ _ gb234 65 #[.int .i64 t247, .int .i64 t248, .slice Xo14 t249.length ko14, .slice Xo15 t252.length ko15, .slice Xo16 t255.length ko16] (0, 0) _ rfl (HM.bx 1 rfl) Try.underlying65 rfl (by kernel_rfl)) rfl ?_
  exact ⟨_, _, _, ER, (MD HM).pick [2, 3, 4]⟩
 ·subst c8
  simp only [Option.some.injEq, Prod.mk.injEq] at H
  obtain ⟨rfl, rfl, rfl, rfl, rfl, rfl, rfl⟩ := H
  go_wp2_with (first | ((with_reducible refine gS 4 rfl ?_); refine pS 1 4 0 [.int .i64 0, .int .i64 0, .slice none 0 0, .slice none 0 0, .slice none 0 0] HM rfl rfl ?_; clear HM; intro w18 HM; replace HM := HM.nl k76 76; replace HM := HM.nl k76 76; replace HM := HM.nl (Kd.int .i64) 3))
  refine bodyPost_ret (results_ctt rfl _ _ gb234 65 #[.int .i64 0, .int .i64 0, .slice none 0 0, .slice none 0 0, .slice none 0 0] (0, 0) _ rfl (HM.bx 1 rfl) Try.underlying65 rfl (by kernel_rfl)) rfl ?_
  exact ⟨_, _, _, ER, (MD HM).pick [2, 3, 4]⟩
end Go.Proofs.Ytanakbmhclpamaa.G

namespace Go.Proofs.Ytanakbmhclpamaa.G
open Go.RowKit Go.Proofs.YtanakbmhclpamaaW.PrintWords Go.Proofs.YtanakbmhclpamaaW.PrintLast Go.Proofs.YtanakbmhclpamaaW.PrintMore Go.Proofs.Ytanakbmhclpamaa.Sh
attribute [local go_sem] max2_int min2_int max_two min_two max_three min_three max_four min_four
set_option linter.unusedVariables false
set_option linter.unusedSimpArgs false
def spec_Hash.l0 : Nat → ByteArray → Int → Int → Option (Int)
 | 0, _, _, _ => none
 | k + 1, x0, x3, x4 => if x4 < (x0.size : Int) then (if 0 ≤ x4 then (spec_Hash.l0 k x0 (Int.tmod (wrap64 ((Go.bits .xor .i64 x3 (wrap64 (bt x0 x4))) * 16777619)) 4294967296) (wrap64 (x4 + 1))) else (none)) else (some x3)
def spec_Hash.f (k : Nat) (a0 : ByteArray) : Option (Int) := spec_Hash.l0 k a0 2166136261 0
set_option maxHeartbeats 8000000 in
set_option maxRecDepth 100000 in
theorem spec_Hash.calls (k : Nat) (a0 : ByteArray) (r : Int) (w : World) (h : spec_Hash.f k a0 = some r) :
  Calls Try.prog 111 #[.string a0] w fun e w' => e = .returned (.int .i64 r) ∧ Drawn0 w w' := by
 have H : (spec_Hash.l0 k a0 2166136261 0) = some r := h
 clear h
 have H' := Aside0.mk H
 clear H
 go_enter Try.func111, Try.ntmps111
 go_wp2
 go_loopg [3, 4] k (fun kq v3 v4 w' => ∃ (x3_1 : Int) (x4_1 : Int), v3 = .int .i64 x3_1 ∧ v4 = .int .i64 x4_1 ∧ Aside0 (spec_Hash.l0 kq a0 x3_1 x4_1 = some r) ∧ Aside0 (kq ≤ k) ∧ Drawn0 w w')
 case atStart => exact ⟨(2166136261), (0), RS, RS, H', ⟨Nat.le_refl _⟩, DR⟩
 case round =>
  clear H'
  try clear c1
  obtain ⟨x3_1, x4_1, rfl, rfl, HA, HK1, ⟨m1, rfl⟩⟩ := hrel
  cases gk with
  | zero => exact absurd HA.out (by simp [spec_Hash.l0])
  | succ k1 =>
   have H := HA.out
   clear HA
   simp only [spec_Hash.l0] at H
   by_cases c2 : x4_1 < (a0.size : Int)
   ·rw [if_pos c2] at H
    have c2b0 : decide (x4_1 < (a0.size : Int)) = true := decide_eq_true c2
    clear c2
    by_cases c3 : 0 ≤ x4_1
    ·rw [if_pos c3] at H
     have c3b0 : decide (0 ≤ x4_1) = true := decide_eq_true c3
     clear c3
     have H' := Aside0.mk H
     clear H
     have p4 : 0 ≤ (x4_1 : Int) := of_decide_eq_true AS
     have q4 : x4_1 < (a0.size : Int) := of_decide_eq_true AS
     have hx4 := bt_at a0 x4_1
     replace p4 := eq_true p4
     replace q4 := eq_true q4
     go_wp2
     go_roundg k1
     case measure => have := HK1.out; omega
     case rel => exact ⟨(Int.tmod (wrap64 ((Go.bits .xor .i64 x3_1 (wrap64 (bt a0 x4_1))) * 16777619)) 4294967296), (wrap64 (x4_1 + 1)), RS, RS, H', ⟨by have := HK1.out; omega⟩, DR⟩
    ·rw [if_neg c3] at H
     exact absurd H (by simp)
   ·rw [if_neg c2] at H
    have c2b0 : decide (x4_1 < (a0.size : Int)) = false := decide_eq_false c2
    clear c2
    obtain rfl := Option.some.inj H
    go_wp2
    go_ret
    exact ⟨by first | rfl | (simp; done) | (simp [*]; done), DR⟩
end Go.Proofs.Ytanakbmhclpamaa.G

namespace Go.Proofs.Ytanakbmhclpamaa.G
open Go.RowKit Go.Proofs.YtanakbmhclpamaaW.PrintWords Go.Proofs.YtanakbmhclpamaaW.PrintLast Go.Proofs.YtanakbmhclpamaaW.PrintMore Go.Proofs.Ytanakbmhclpamaa.Sh
attribute [local go_sem] max2_int min2_int max_two min_two max_three min_three max_four min_four
set_option linter.unusedVariables false
set_option linter.unusedSimpArgs false
open Go.Proofs.Ytanakbmhclpamaa.Mm
def spec_l08But.l0 : Nat → Int → List Int → List Int → Int → Int → Option (List Int)
 | 0, _, _, _, _, _ => none
 | k + 1, x1, x5, x9, x10, x11 => if x11 < x10 then (if 0 ≤ x11 then (if x11 < (x9.length : Int) then (if (rd x9 x11) = x1 then (spec_l08But.l0 k x1 x5 x9 x10 (wrap64 (x11 + 1))) else (if x5.length < 17592186044416 then (spec_l08But.l0 k x1 (x5 ++ [rd x9 x11]) x9 x10 (wrap64 (x11 + 1))) else (none))) else (none)) else (none)) else (some x5)
def spec_l08But.f (k : Nat) (l0 : List Int) (a1 : Int) : Option (List Int) := spec_l08But.l0 k a1 (([] : List Int)) l0 (l0.length : Int) 0
set_option maxHeartbeats 8000000 in
set_option maxRecDepth 100000 in
theorem spec_l08But.calls (k : Nat) (A0 : Option Addr) (c0 : Nat) (l0 : List Int) (a1 : Int) (r : List Int) (w : World) (hr0 : Kd.C (Kd.int .i64) w A0 l0.length l0) (hc0 : l0.length ≤ c0) (h : spec_l08But.f k l0 a1 = some r) :
  Calls Try.prog 112 #[.slice A0 l0.length c0, .int .i64 a1] w fun e w' => ∃ v0_ : Value, e = .returned (v0_) ∧ Mem w [] w' [rowR (Kd.int .i64) 3 v0_ r] := by
 have HR0 := Aside0.mk hr0
 have HC0 := Aside0.mk hc0
 clear hr0 hc0
 have HM := Mem.nil w
 have H := h
 clear h
 unfold spec_l08But.f at H
 go_enter Try.func112, Try.ntmps112
 have H' := Aside0.mk H
 clear H
 go_wp2_with (first | ((with_reducible refine gN 8 rfl ?_); refine pL 8 (Kd.int .i64) 3 ([] : List Int) [] (Reps.none _ _) HM rfl ?_; clear HM; intro v264 w3 HM))
 go_loopg [5, 11] k (fun kq v5 v11 w' => ∃ (x5_1 : List Int) (x11_1 : Int), v11 = .int .i64 x11_1 ∧ Aside0 (spec_l08But.l0 kq a1 x5_1 l0 (l0.length : Int) x11_1 = some r) ∧ Aside0 (kq ≤ k) ∧ Mem w [] w' [rowR (Kd.int .i64) 3 v5 x5_1])
 case atStart => exact ⟨((([] : List Int))), (0), RS, H', ⟨Nat.le_refl _⟩, (MD HM).pick [0]⟩
 case round =>
  clear H' HM
  obtain ⟨x5_1, x11_1, rfl, HA, HK1, HM⟩ := hrel
  cases gk with
  | zero => exact absurd HA.out (by simp [spec_l08But.l0])
  | succ k1 =>
   have H := HA.out
   clear HA
   simp only [spec_l08But.l0] at H
   go_upto_if 12 with (fail)
   replace H := IT H; rcases H with ⟨c4, H⟩ | ⟨c4, H⟩
   ·have c4b0 : decide (x11_1 < (l0.length : Int)) = true := decide_eq_true c4
    clear c4
    (first | rw [c4b0] | (simp only [i64_w, i32_w]; rw [c4b0]) | skip)
    replace H := GD H; obtain ⟨c5, H⟩ := H
    have c5b0 : decide (0 ≤ x11_1) = true := decide_eq_true c5
    clear c5
    replace H := GD H; obtain ⟨c6, H⟩ := H
    have c6b0 : decide (x11_1 < (l0.length : Int)) = true := decide_eq_true c6
    clear c6
    have p266 : 0 ≤ (x11_1 : Int) := of_decide_eq_true AS
    have q266 : (x11_1 : Int) < (l0.length : Int) := of_decide_eq_true AS
    obtain ⟨ad266, e266, hx266_0⟩ := Kd.at_int (HM.came HR0.out) x11_1 p266 q266
    cases e266
    replace p266 := eq_true p266
    replace q266 := eq_true q266
    go_upto_if 17 with (fail)
    replace H := IT H; rcases H with ⟨c7, H⟩ | ⟨c7, H⟩
    ·have c7b0 : ((rd l0 x11_1) == a1) = true := beq_iff_eq.mpr c7
     have c7b1 : ((rd l0 x11_1) != a1) = false := bne_eq_false_iff_eq.mpr c7
     clear c7
     (first | rw [c7b0] | (simp only [i64_w, i32_w]; rw [c7b0]) | skip)
     have H' := Aside0.mk H
     clear H
     go_wp2
     go_roundg k1
     case measure => have := HK1.out; omega
     case rel => exact ⟨(x5_1), (wrap64 (x11_1 + 1)), RS, H', ⟨by have := HK1.out; omega⟩, (MD HM).pick [0]⟩
    ·have c7b0 : ((rd l0 x11_1) == a1) = false := beq_eq_false_iff_ne.mpr c7
     have c7b1 : ((rd l0 x11_1) != a1) = true := bne_iff_ne.mpr c7
     (first | rw [c7b0] | (simp only [i64_w, i32_w]; rw [c7b0]) | skip)
     replace H := GD H; obtain ⟨c8, H⟩ := H
     have LMc8 := Aside0.mk c8
     clear c8
     have H' := Aside0.mk H
     clear H
     go_wp2_with (first | ((with_reducible refine gN 20 rfl ?_); refine pL 20 (Kd.int .i64) 3 [rd l0 x11_1] [.int .i64 (rd l0 x11_1)] (Reps.one (show Kd.M (Kd.int .i64) _ _ _ (rd l0 x11_1) [.int .i64 (rd l0 x11_1)] from rfl) (Reps.none _ _)) HM rfl ?_; clear HM; intro v10 w9 HM; obtain ⟨Xv10, kv10, ev10⟩ := HM.rdR 1 rfl; subst ev10) | ((with_reducible refine gate_builtin (b := .append) (xs := #[.tmp 18, .tmp 20]) rfl ?_); refine pA 0 (.tmp 18) (.tmp 20) 60 3 (Kd.int .i64) u5 x5_1 [rd l0 x11_1] Xv10 ([rd l0 x11_1].length) kv10 HM rfl Try.underlying60 info3 rfl (HM.CR 1 rfl).2.2 (by have h_ := LMc8.out; simp only [List.length_singleton]; omega) ?_; clear HM; intro v268 w11 HM))
     go_roundg k1
     case measure => have := HK1.out; omega
     case rel => exact ⟨((x5_1 ++ [rd l0 x11_1])), (wrap64 (x11_1 + 1)), RS, H', ⟨by have := HK1.out; omega⟩, (MD HM).pick [0]⟩
   ·have c4b0 : decide (x11_1 < (l0.length : Int)) = false := decide_eq_false c4
    clear c4
    (first | rw [c4b0] | (simp only [i64_w, i32_w]; rw [c4b0]) | skip)
    obtain rfl := Option.some.inj H
    go_wp2
    go_ret
    exact ⟨_, ER, (MD HM).pick [0]⟩
def spec_l10Haunt.f (k : Nat) (a0_0 : Int) (a0_1 : Int) (l0_2 : List (S76)) (l0_3 : List (S76)) (l0_4 : List Int) (a1 : Int) : Option (Int × Int × (List (S76)) × (List (S76)) × List Int) := (spec_l08But.f k l0_4 a1).bind fun t272 => (if t272.length < 17592186044416 then ((some (t272 ++ [a1] : List Int)).bind fun y275 => ((spec_l10Ghosts.f a0_0 a0_1 l0_2 l0_3 y275).bind fun t278 => (if (y275.length : Int) > t278 then (if 1 ≤ (y275.length : Int) then (some (a0_0, a0_1, l0_2, l0_3, (y275.drop (1 : Int).toNat))) else (none)) else (some (a0_0, a0_1, l0_2, l0_3, y275))))) else (none))
def spec_l10Haunt.T2 : Bool × List (List Nat × List Nat) := (true, [([], []), ([0], [0]), ([1], [1]), ([], []), ([3], [3]), ([2, 4], [2, 4])])
def spec_l10Haunt.B2 : List Nat := [0, 1, 3, 0, 8, 31]
theorem spec_l10Haunt.tab2 : rtab .any (opsOf Try.f130 2) = spec_l10Haunt.T2 := by kernel_rfl
theorem spec_l10Haunt.bits2 : waitsOk spec_l10Haunt.T2.2 spec_l10Haunt.B2 = true := by kernel_rfl
set_option maxHeartbeats 8000000 in
set_option maxRecDepth 100000 in
theorem spec_l10Haunt.calls (k : Nat) (a0_0 : Int) (a0_1 : Int) (u9000_ : Value) (l0_2 : List (S76)) (u9001_ : Value) (l0_3 : List (S76)) (A0_4 : Option Addr) (c0_4 : Nat) (l0_4 : List Int) (a1 : Int) (r1 : Int) (r2 : Int) (r3 : List (S76)) (r4 : List (S76)) (r5 : List Int) (w0 w : World) (F : List SP)  (hM : Mem w0 F w [rowR k76 76 u9000_ l0_2, rowR k76 76 u9001_ l0_3, row (Kd.int .i64) 3 (.slice A0_4 l0_4.length c0_4) l0_4]) (h : spec_l10Haunt.f k a0_0 a0_1 l0_2 l0_3 l0_4 a1 = some (r1, r2, r3, r4, r5)) :
  Calls Try.prog 130 #[.agg #[.int .i64 a0_0, .int .i64 a0_1, u9000_, u9001_, .slice A0_4 l0_4.length c0_4], .int .i64 a1] w fun e w' => ∃ v2_ v3_ v4_ : Value, e = .returned (.agg #[.int .i64 r1, .int .i64 r2, v2_, v3_, v4_]) ∧ Mem w0 F w' [rowR k76 76 v2_ r3, rowR k76 76 v3_ r4, row (Kd.int .i64) 3 v4_ r5, row (Kd.int .i64) 3 (.slice A0_4 l0_4.length c0_4) l0_4] := by
 have hu65 := Try.underlying65
 have HM := hM
 clear hM
 have H := h
 clear h
 unfold spec_l10Haunt.f at H
 go_enter Try.func130, Try.ntmps130
 replace H := BN H; obtain ⟨t272, A8, H⟩ := H
 replace H := GD H; obtain ⟨c10, H⟩ := H
 have LMc10 := Aside0.mk c10
 clear c10
 replace H := BLt H; obtain ⟨y275, Ny275, H⟩ := H
 replace Ny275 := Aside0.mk Ny275
 obtain ⟨Xo3, ko3, eo3⟩ := HM.rdR 0 rfl
 subst eo3
 obtain ⟨Xo4, ko4, eo4⟩ := HM.rdR 1 rfl
 subst eo4
 try go_wp2_with (first | ((with_reducible refine gN 2 rfl ?_); refine pB 2 65 [.int .i64 a0_0, .int .i64 a0_1, .slice Xo3 l0_2.length ko3, .slice Xo4 l0_3.length ko4, .slice A0_4 l0_4.length c0_4] HM rfl ?_; clear HM; intro gb270 w5 HM) | ((with_reducible refine gN 4 rfl ?_); refine pB 4 65 [.int .i64 0, .int .i64 0, .slice none 0 0, .slice none 0 0, .slice none 0 0] HM rfl ?_; clear HM; intro gb271 w6 HM; obtain ⟨z7_0, z7_1, z7_2, z7_3, z7_4, Z7_0, Z7_1, Z7_2, Z7_3, Z7_4⟩ := bk5 (HM.bx 3 rfl)) | ((with_reducible refine gC 112 rfl ?_); refine pC (some 8) rfl #[.slice A0_4 l0_4.length c0_4, .int .i64 a1] rfl Try.func112 (spec_l08But.calls k _ _ l0_4 a1 t272 _ (HM.C 2 rfl).2.2 (HM.C 2 rfl).2.1 A8.out) ?_; rintro e w9 ⟨v273, rfl, hR⟩; refine ⟨_, rfl, ?_⟩; replace HM := HM.call hR; clear hR) | ((with_reducible refine gN 10 rfl ?_); refine pL 10 (Kd.int .i64) 3 [a1] [.int .i64 a1] (Reps.one (show Kd.M (Kd.int .i64) _ _ _ a1 [.int .i64 a1] from rfl) (Reps.none _ _)) HM rfl ?_; clear HM; intro v12 w11 HM; obtain ⟨Xv12, kv12, ev12⟩ := HM.rdR 6 rfl; subst ev12) | ((with_reducible refine gate_builtin (b := .append) (xs := #[.tmp 8, .tmp 10]) rfl ?_); refine pA 5 (.tmp 8) (.tmp 10) 60 3 (Kd.int .i64) v273 t272 [a1] Xv12 ([a1].length) kv12 HM rfl Try.underlying60 info3 rfl (HM.CR 6 rfl).2.2 (by have h_ := LMc10.out; simp only [List.length_singleton]; omega) ?_; clear HM; intro v276 w13 HM; replace HM := HM.nm 5 rfl Ny275.out; obtain ⟨Xo14, ko14, eo14⟩ := HM.rdR 5 rfl; subst eo14) | ((with_reducible refine gS 12 rfl ?_); refine pS 3 12 4 [.slice Xo14 y275.length ko14] HM rfl rfl ?_; clear HM; intro w15 HM))
 replace H := BN H; obtain ⟨t278, A16, H⟩ := H
 refine RGN 6 [0, 1, 2, 3, 4, 5] (fun a0 b a w' => a = putSel a0 b [(0, 13, .pointer (some ⟨gb270, 4, none⟩)), (1, 14, .slice Xo14 y275.length ko14), (2, 15, .int .i64 (y275.length : Int)), (3, 16, .agg #[.int .i64 a0_0, .int .i64 a0_1, .slice Xo3 l0_2.length ko3, .slice Xo4 l0_3.length ko4, .slice Xo14 y275.length ko14]), (4, 17, .int .i64 t278), (5, 18, .bool (decide ((y275.length : Int) > t278)))] ∧ Mem w0 F w' [rowR k76 76 (.slice Xo3 l0_2.length ko3) l0_2, rowR k76 76 (.slice Xo4 l0_3.length ko4) l0_3, row (Kd.int .i64) 3 (.slice A0_4 l0_4.length c0_4) l0_4, box 65 gb270 [.int .i64 a0_0, .int .i64 a0_1, .slice Xo3 l0_2.length ko3, .slice Xo4 l0_3.length ko4, .slice Xo14 y275.length ko14], box 65 gb271 [.int .i64 0, .int .i64 0, .slice none 0 0, .slice none 0 0, .slice none 0 0], rowR (Kd.int .i64) 3 (.slice Xo14 y275.length ko14) y275, rowR (Kd.int .i64) 3 (.slice Xv12 [a1].length kv12) [a1]]) spec_l10Haunt.tab2 spec_l10Haunt.bits2 ?_ ?_ ?_
 ·exact ⟨PS0' rfl _, (HM.drew).pick [0, 1, 2, 3, 4, 5, 6]⟩
 ·clear HM
  refine SY ?_ ?_
  ·intro b a w ha HM hb hon hoff K hK
   have e2 := PG ha 2
   exact VL (.pointer (some ⟨gb270, 4, none⟩)) (hK.out _ _ ⟨PUT ha 0 hb, HM⟩)
  refine SY ?_ ?_
  ·intro b a w ha HM hb hon hoff K hK
   obtain ⟨z20_0, z20_1, z20_2, z20_3, z20_4, Z20_0, Z20_1, Z20_2, Z20_3, Z20_4⟩ := bk5 (HM.bx 3 rfl)
   have e13 := PE ha 0 hon
   exact VL (.slice Xo14 y275.length ko14) (hK.out _ _ ⟨PUT ha 1 hb, HM⟩)
  refine SY ?_ ?_
  ·intro b a w ha HM hb hon hoff K hK
   have e14 := PE ha 1 hon
   exact VL (.int .i64 (y275.length : Int)) (hK.out _ _ ⟨PUT ha 2 hb, HM⟩)
  refine SY ?_ ?_
  ·intro b a w ha HM hb hon hoff K hK
   obtain ⟨z21_0, z21_1, z21_2, z21_3, z21_4, Z21_0, Z21_1, Z21_2, Z21_3, Z21_4⟩ := bk5 (HM.bx 3 rfl)
   have e2 := PG ha 2
   exact VL (.agg #[.int .i64 a0_0, .int .i64 a0_1, .slice Xo3 l0_2.length ko3, .slice Xo4 l0_3.length ko4, .slice Xo14 y275.length ko14]) (hK.out _ _ ⟨PUT ha 3 hb, HM⟩)
  refine SY ?_ ?_
  ·intro b a w ha HM hb hon hoff K hK
   have e16 := PE ha 3 hon
   refine ST (eC (some 17) rfl #[.agg #[.int .i64 a0_0, .int .i64 a0_1, .slice Xo3 l0_2.length ko3, .slice Xo4 l0_3.length ko4, .slice Xo14 y275.length ko14]] rfl Try.func105 (spec_l10Ghosts.calls a0_0 a0_1 _ _ l0_2 _ _ l0_3 _ _ y275 t278 _ (HM.CR 0 rfl).2.2 (HM.CR 0 rfl).2.1 (HM.CR 1 rfl).2.2 (HM.CR 1 rfl).2.1 (HM.CR 5 rfl).2.2 (HM.CR 5 rfl).2.1 A16.out) ?_ (hargs := by (simp only [List.map_toArray, List.map_cons, List.map_nil, evc, eval_of e16]) <;> rfl))
   rintro e w22 ⟨rfl, hR⟩
   refine ⟨_, rfl, ?_⟩
   replace HM := HM.call hR
   clear hR
   exact hK.out _ _ ⟨PUT ha 4 hb, (HM).pick [0, 1, 2, 3, 4, 5, 6]⟩
  refine SY ?_ ?_
  ·intro b a w ha HM hb hon hoff K hK
   have e15 := PE ha 2 hon
   have e17 := PE ha 4 hon
   exact VL (.bool (decide ((y275.length : Int) > t278))) (hK.out _ _ ⟨PUT ha 5 hb, HM⟩)
  exact steps_nil
 rintro _ w23 ⟨rfl, HM⟩
 simp only [putSel, if_true, Act.put, List.setIfInBounds_toArray, List.set_cons_zero, List.set_cons_succ, gt_iff_lt, ge_iff_le]
 go_upto_if 18 with (fail)
 replace H := IT H; rcases H with ⟨c24, H⟩ | ⟨c24, H⟩
 ·have c24b0 : decide (t278 < (y275.length : Int)) = true := decide_eq_true c24
  clear c24
  (first | rw [c24b0] | (simp only [i64_w, i32_w]; rw [c24b0]) | skip)
  replace H := GD H; obtain ⟨c26, H⟩ := H
  have c26b0 := eq_true c26
  have c26b1 : decide (1 ≤ (y275.length : Int)) = true := decide_eq_true c26
  clear c26
  simp only [Option.some.injEq, Prod.mk.injEq] at H
  obtain ⟨rfl, rfl, rfl, rfl, rfl⟩ := H
  obtain ⟨z25_0, z25_1, z25_2, z25_3, z25_4, Z25_0, Z25_1, Z25_2, Z25_3, Z25_4⟩ := bk5 (HM.bx 3 rfl)
  go_wp2_with (first | ((with_reducible refine gate_sl (t := 60) rfl ?_); refine pD 5 60 3 (Kd.int .i64) _ _ 1 y275 Xo14 ko14 HM rfl Try.underlying60 info3 rfl (fun _ _ h => Kd.Q_of_R h) (by omega) (by have h_ : (1 : Int) ≤ ((y275.length : Int) : Int) := of_decide_eq_true AS; first | exact h_ | (have e_ := (HM.CR 5 rfl).1; omega)) ?_; clear HM; intro v280 HM; obtain ⟨Xo27, ko27, eo27⟩ := HM.rd 5 rfl; subst eo27) | ((with_reducible refine gS 22 rfl ?_); refine pS 3 22 4 [.slice Xo27 (y275.drop (1 : Int).toNat).length ko27] HM rfl rfl ?_; clear HM; intro w28 HM; obtain ⟨z29_0, z29_1, z29_2, z29_3, z29_4, Z29_0, Z29_1, Z29_2, Z29_3, Z29_4⟩ := bk5 (HM.bx 3 rfl)) | ((with_reducible refine gS 4 rfl ?_); refine pS 4 4 0 [.int .i64 a0_0, .int .i64 a0_1, .slice Xo3 l0_2.length ko3, .slice Xo4 l0_3.length ko4, .slice Xo27 (y275.drop (1 : Int).toNat).length ko27] HM rfl rfl ?_; clear HM; intro w30 HM))
  refine bodyPost_ret (results_cell_row rfl _ _ gb271 65 #[.int .i64 a0_0, .int .i64 a0_1, .slice Xo3 l0_2.length ko3, .slice Xo4 l0_3.length ko4, .slice Xo27 (y275.drop (1 : Int).toNat).length ko27] (0, 0) _ rfl (HM.bx 4 rfl) Try.underlying65 rfl (by kernel_rfl)) rfl ?_
  exact ⟨_, _, _, ER, (MD HM).pick [0, 1, 5, 2]⟩
 ·have c24b0 : decide (t278 < (y275.length : Int)) = false := decide_eq_false c24
  clear c24
  (first | rw [c24b0] | (simp only [i64_w, i32_w]; rw [c24b0]) | skip)
  simp only [Option.some.injEq, Prod.mk.injEq] at H
  obtain ⟨rfl, rfl, rfl, rfl, rfl⟩ := H
  obtain ⟨z31_0, z31_1, z31_2, z31_3, z31_4, Z31_0, Z31_1, Z31_2, Z31_3, Z31_4⟩ := bk5 (HM.bx 3 rfl)
  go_wp2_with (first | ((with_reducible refine gS 4 rfl ?_); refine pS 4 4 0 [.int .i64 a0_0, .int .i64 a0_1, .slice Xo3 l0_2.length ko3, .slice Xo4 l0_3.length ko4, .slice Xo14 y275.length ko14] HM rfl rfl ?_; clear HM; intro w32 HM; replace HM := HM.toQ 5 rfl))
  refine bodyPost_ret (results_cell_row rfl _ _ gb271 65 #[.int .i64 a0_0, .int .i64 a0_1, .slice Xo3 l0_2.length ko3, .slice Xo4 l0_3.length ko4, .slice Xo14 y275.length ko14] (0, 0) _ rfl (HM.bx 4 rfl) Try.underlying65 rfl (by kernel_rfl)) rfl ?_
  exact ⟨_, _, _, ER, (MD HM).pick [0, 1, 5, 2]⟩
def spec_EvictSmall.l0 : Nat → Int → Int → List (S76) → List (S76) → List Int → Option (Int × Int × (List (S76)) × (List (S76)) × List Int × ByteArray × Bool)
 | 0, _, _, _, _, _ => none
 | k + 1, x297000, x297001, x297002, x297003, x297004 => if (x297002.length : Int) > 0 then (if 0 < (x297002.length : Int) then ((some (([] : List (S76)) : List (S76))).bind fun y299 => (if 1 ≤ (x297002.length : Int) then ((some (x297002.drop 1 : List (S76))).bind fun y302 => (if y299.length + y302.length < 3518437208883 then ((some (y299 ++ y302 : List (S76))).bind fun y306 => (if ((rd_T76 x297002 0).f2) ≤ 1 then ((spec_Hash.f k ((rd_T76 x297002 0).f0)).bind fun t309 => ((spec_l10Haunt.f k x297000 x297001 y306 x297003 x297004 t309).bind fun bt310 => (some (bt310.1, bt310.2.1, bt310.2.2.1, bt310.2.2.2.1, bt310.2.2.2.2, (rd_T76 x297002 0).f0, true)))) else (if x297003.length < 3518437208883 then (spec_EvictSmall.l0 k x297000 x297001 y306 (x297003 ++ [(⟨(rd_T76 x297002 0).f0, (rd_T76 x297002 0).f1, 0⟩ : S76)]) x297004) else (none)))) else (none))) else (none))) else (none)) else (some (x297000, x297001, x297002, x297003, x297004, (⟨#[]⟩ : ByteArray), false))
def spec_EvictSmall.f (k : Nat) (a0_0 : Int) (a0_1 : Int) (l0_2 : List (S76)) (l0_3 : List (S76)) (l0_4 : List Int) : Option (Int × Int × (List (S76)) × (List (S76)) × List Int × ByteArray × Bool) := (spec_ThreeOk.f k a0_0 a0_1 l0_2 l0_3 l0_4).bind fun t284 => (if t284 = true then ((spec_l10Copy.f a0_0 a0_1 l0_2 l0_3 l0_4).bind fun bt285 => (spec_EvictSmall.l0 k bt285.1 bt285.2.1 bt285.2.2.1 bt285.2.2.2.1 bt285.2.2.2.2)) else (some (0, 0, ([] : List (S76)), ([] : List (S76)), ([] : List Int), (⟨#[]⟩ : ByteArray), false)))
def spec_EvictSmall.T8 : Bool × List (List Nat × List Nat) := (true, [([], []), ([], []), ([1], [1]), ([2], [2]), ([0, 3, 3], [0, 3]), ([], []), ([5], [5]), ([4, 4, 0, 1, 2, 3, 4], [4]), ([6, 7, 0, 1, 2, 3, 4, 5, 6, 7], [6]), ([8, 0, 1, 2, 3, 4, 5, 6, 7, 8], [])])
def spec_EvictSmall.B8 : List Nat := [0, 0, 2, 6, 15, 0, 32, 31, 255, 511]
theorem spec_EvictSmall.tab8 : rtab .any (opsOf Try.f123 8) = spec_EvictSmall.T8 := by kernel_rfl
theorem spec_EvictSmall.bits8 : waitsOk spec_EvictSmall.T8.2 spec_EvictSmall.B8 = true := by kernel_rfl
set_option maxHeartbeats 8000000 in
set_option maxRecDepth 100000 in
theorem spec_EvictSmall.calls (k : Nat) (a0_0 : Int) (a0_1 : Int) (A0_2 : Option Addr) (c0_2 : Nat) (l0_2 : List (S76)) (A0_3 : Option Addr) (c0_3 : Nat) (l0_3 : List (S76)) (A0_4 : Option Addr) (c0_4 : Nat) (l0_4 : List Int) (r1 : Int) (r2 : Int) (r3 : List (S76)) (r4 : List (S76)) (r5 : List Int) (r6 : ByteArray) (r7 : Bool) (w : World) (hr0_2 : Kd.C k76 w A0_2 l0_2.length l0_2) (hc0_2 : l0_2.length ≤ c0_2) (hr0_3 : Kd.C k76 w A0_3 l0_3.length l0_3) (hc0_3 : l0_3.length ≤ c0_3) (hr0_4 : Kd.C (Kd.int .i64) w A0_4 l0_4.length l0_4) (hc0_4 : l0_4.length ≤ c0_4) (h : spec_EvictSmall.f k a0_0 a0_1 l0_2 l0_3 l0_4 = some (r1, r2, r3, r4, r5, r6, r7)) :
  Calls Try.prog 123 #[.agg #[.int .i64 a0_0, .int .i64 a0_1, .slice A0_2 l0_2.length c0_2, .slice A0_3 l0_3.length c0_3, .slice A0_4 l0_4.length c0_4]] w fun e w' => ∃ v2_ v3_ v4_ : Value, e = .returned (.tuple #[.agg #[.int .i64 r1, .int .i64 r2, v2_, v3_, v4_], .string r6, .bool r7]) ∧ Mem w [] w' [rowR k76 76 v2_ r3, rowR k76 76 v3_ r4, row (Kd.int .i64) 3 v4_ r5] := by
 have hu65 := Try.underlying65
 have hu76 := Try.underlying76
 have HR0_2 := Aside0.mk hr0_2
 have HC0_2 := Aside0.mk hc0_2
 clear hr0_2 hc0_2
 have HR0_3 := Aside0.mk hr0_3
 have HC0_3 := Aside0.mk hc0_3
 clear hr0_3 hc0_3
 have HR0_4 := Aside0.mk hr0_4
 have HC0_4 := Aside0.mk hc0_4
 clear hr0_4 hc0_4
 have HM := Mem.nil w
 have H := h
 clear h
 unfold spec_EvictSmall.f at H
 go_enter Try.func123, Try.ntmps123
 replace H := BN H; obtain ⟨t284, A5, H⟩ := H
 go_upto_if 9 with (first | ((with_reducible refine gN 1 rfl ?_); refine pB 1 65 [.int .i64 a0_0, .int .i64 a0_1, .slice A0_2 l0_2.length c0_2, .slice A0_3 l0_3.length c0_3, .slice A0_4 l0_4.length c0_4] HM rfl ?_; clear HM; intro gb282 w2 HM) | ((with_reducible refine gN 2 rfl ?_); refine pB 2 65 [.int .i64 0, .int .i64 0, .slice none 0 0, .slice none 0 0, .slice none 0 0] HM rfl ?_; clear HM; intro gb283 w3 HM; obtain ⟨z4_0, z4_1, z4_2, z4_3, z4_4, Z4_0, Z4_1, Z4_2, Z4_3, Z4_4⟩ := bk5 (HM.bx 0 rfl)) | ((with_reducible refine gC 91 rfl ?_); refine pC (some 8) rfl #[.agg #[.int .i64 a0_0, .int .i64 a0_1, .slice A0_2 l0_2.length c0_2, .slice A0_3 l0_3.length c0_3, .slice A0_4 l0_4.length c0_4]] rfl Try.func91 (spec_ThreeOk.calls k a0_0 a0_1 _ _ l0_2 _ _ l0_3 _ _ l0_4 t284 _ (HM.came HR0_2.out) HC0_2.out (HM.came HR0_3.out) HC0_3.out (HM.came HR0_4.out) HC0_4.out A5.out) ?_; rintro e w6 ⟨rfl, hR⟩; refine ⟨_, rfl, ?_⟩; replace HM := HM.call hR; clear hR))
 replace HM := nzM HM
 replace H := IB H
 rcases H with ⟨c7, H⟩ | ⟨c7, H⟩
 ·subst c7
  replace H := BN H; obtain ⟨⟨t285, t286, t287, t290, t293⟩, A9, H⟩ := H
  have H' := Aside0.mk H
  clear H
  obtain ⟨z8_0, z8_1, z8_2, z8_3, z8_4, Z8_0, Z8_1, Z8_2, Z8_3, Z8_4⟩ := bk5 (HM.bx 0 rfl)
  go_wp2_with (first | ((with_reducible refine gC 109 rfl ?_); refine pC (some 12) rfl #[.agg #[.int .i64 a0_0, .int .i64 a0_1, .slice A0_2 l0_2.length c0_2, .slice A0_3 l0_3.length c0_3, .slice A0_4 l0_4.length c0_4]] rfl Try.func109 (spec_l10Copy.calls a0_0 a0_1 _ _ l0_2 _ _ l0_3 _ _ l0_4 t285 t286 t287 t290 t293 _ (HM.came HR0_2.out) HC0_2.out (HM.came HR0_3.out) HC0_3.out (HM.came HR0_4.out) HC0_4.out A9.out) ?_; rintro e w10 ⟨v288, v291, v294, rfl, hR⟩; refine ⟨_, rfl, ?_⟩; replace HM := HM.call hR; clear hR) | ((with_reducible refine gN 5 rfl ?_); refine pB 5 65 [.int .i64 0, .int .i64 0, .slice none 0 0, .slice none 0 0, .slice none 0 0] HM rfl ?_; clear HM; intro gb296 w11 HM; obtain ⟨Xo12, ko12, eo12⟩ := HM.rdR 2 rfl; subst eo12; obtain ⟨Xo13, ko13, eo13⟩ := HM.rdR 3 rfl; subst eo13; obtain ⟨Xo14, ko14, eo14⟩ := HM.rdR 4 rfl; subst eo14) | ((with_reducible refine gS 5 rfl ?_); refine pS 5 5 0 [.int .i64 t285, .int .i64 t286, .slice Xo12 t287.length ko12, .slice Xo13 t290.length ko13, .slice Xo14 t293.length ko14] HM rfl rfl ?_; clear HM; intro w15 HM; replace HM := HM.toQ 4 rfl))
  go_loopg [] k (fun kq w' => ∃ (x284000_1 : Int) (x284001_1 : Int) (x297002_1 : List (S76)) (x297003_1 : List (S76)) (u297002 : Value) (u297003 : Value), Aside0 (spec_EvictSmall.l0 kq t285 t286 x297002_1 x297003_1 t293 = some (r1, r2, r3, r4, r5, r6, r7)) ∧ Aside0 (kq ≤ k) ∧ Mem w [] w' [rowR k76 76 u297002 x297002_1, rowR k76 76 u297003 x297003_1, row (Kd.int .i64) 3 (.slice Xo14 t293.length ko14) t293, box 65 gb282 [.int .i64 a0_0, .int .i64 a0_1, .slice A0_2 l0_2.length c0_2, .slice A0_3 l0_3.length c0_3, .slice A0_4 l0_4.length c0_4], box 65 gb283 [.int .i64 x284000_1, .int .i64 x284001_1, .slice none 0 0, .slice none 0 0, .slice none 0 0], box 65 gb296 [.int .i64 t285, .int .i64 t286, u297002, u297003, (.slice Xo14 t293.length ko14)]])
  case atStart => exact ⟨(0), (0), (t287), (t290), (.slice Xo12 t287.length ko12), (.slice Xo13 t290.length ko13), H', ⟨Nat.le_refl _⟩, (MD HM).pick [2, 3, 4, 0, 1, 5]⟩
  case round =>
   clear H' HM
   obtain ⟨x284000_1, x284001_1, x297002_1, x297003_1, u297002, u297003, HA, HK1, HM⟩ := hrel
   cases gk with
   | zero => exact absurd HA.out (by simp [spec_EvictSmall.l0])
   | succ k1 =>
    have H := HA.out
    clear HA
    simp only [spec_EvictSmall.l0] at H
    obtain ⟨z16_0, z16_1, z16_2, z16_3, z16_4, Z16_0, Z16_1, Z16_2, Z16_3, Z16_4⟩ := bk5 (HM.bx 5 rfl)
    obtain ⟨Xo17, ko17, eo17⟩ := HM.rdR 0 rfl
    subst eo17
    go_upto_if 16 with (fail)
    replace H := IT H; rcases H with ⟨c18, H⟩ | ⟨c18, H⟩
    ·replace c18 : (x297002_1.length : Int) > 0 := c18
     have c18b0 : decide (0 < (x297002_1.length : Int)) = true := decide_eq_true c18
     have c18b1 : decide (0 < x297002_1.length) = true := decide_eq_true (by omega)
     have c18b9 : decide (0 < x297002_1.length) = true := decide_eq_true (by omega)
     clear c18
     (first | rw [c18b0] | rw [c18b9] | (simp only [i64_w, i32_w]; rw [c18b0]) | skip)
     replace H := GD H; obtain ⟨c19, H⟩ := H
     replace c19 : 0 < (x297002_1.length : Int) := c19
     have c19b0 : decide (0 < (x297002_1.length : Int)) = true := decide_eq_true c19
     have c19b1 : decide (0 < x297002_1.length) = true := decide_eq_true (by omega)
     have c19b9 : decide (0 < x297002_1.length) = true := decide_eq_true (by omega)
     clear c19
     replace H := BLt H; obtain ⟨y299, Ny299, H⟩ := H
     replace Ny299 := Aside0.mk Ny299
     replace H := GD H; obtain ⟨c24, H⟩ := H
     have c24b0 := eq_true c24
     have c24b1 : decide (1 ≤ (x297002_1.length : Int)) = true := decide_eq_true c24
     clear c24
     replace H := BLt H; obtain ⟨_, rfl, H⟩ := H
     replace H := GD H; obtain ⟨c26, H⟩ := H
     have LMc26 := Aside0.mk c26
     clear c26
     replace H := BLt H; obtain ⟨y306, Ny306, H⟩ := H
     replace Ny306 := Aside0.mk Ny306
     have p297 : 0 ≤ (0 : Int) := (by omega)
     have q297 : (0 : Int) < (x297002_1.length : Int) := of_decide_eq_true AS
     obtain ⟨ad297, e297, hx297_0, hx297_1, hx297_2⟩ := at_T76 (HM.CR 0 rfl).2.2 0 p297 q297
     cases e297
     have qi297 : (0 < x297002_1.length) = True := eq_true (by omega)
     (try rw [show ((0 : Int)).toNat = 0 from rfl] at hx297_0)
     (try rw [show 0 * 3 = 0 from rfl] at hx297_0)
     (try rw [Addr.add_zero'] at hx297_0)
     (try rw [show ((0 : Int)).toNat = 0 from rfl] at hx297_1)
     (try rw [show 0 * 3 = 0 from rfl] at hx297_1)
     (try rw [Addr.add_zero'] at hx297_1)
     (try rw [show ((0 : Int)).toNat = 0 from rfl] at hx297_2)
     (try rw [show 0 * 3 = 0 from rfl] at hx297_2)
     (try rw [Addr.add_zero'] at hx297_2)
     replace p297 := eq_true p297
     replace q297 := eq_true q297
     go_upto_if 29 with (first | ((with_reducible refine gN 6 rfl ?_); refine pB 6 76 [.string (⟨#[]⟩ : ByteArray), .string (⟨#[]⟩ : ByteArray), .int .i64 0] HM rfl ?_; clear HM; intro gb298 w20 HM) | ((with_reducible refine gS 6 rfl ?_); refine pS 6 6 0 [.string ((rd_T76 x297002_1 0).f0), .string ((rd_T76 x297002_1 0).f1), .int .i64 ((rd_T76 x297002_1 0).f2)] HM rfl rfl ?_; clear HM; intro w21 HM) | ((with_reducible refine gN 21 rfl ?_); refine pL 21 k76 76 ([] : List (S76)) [] (Reps.none _ _) HM rfl ?_; clear HM; intro v300 w22 HM; replace HM := HM.nm 7 rfl Ny299.out; obtain ⟨z23_0, z23_1, z23_2, z23_3, z23_4, Z23_0, Z23_1, Z23_2, Z23_3, Z23_4⟩ := bk5 (HM.bx 5 rfl)) | ((with_reducible refine gate_sl (t := 44) rfl ?_); refine pRd 44 76 k76 _ _ 1 x297002_1 (some ad297) ko17 rfl Try.underlying44 info76 (HM.CR 0 rfl).2.2 (HM.CR 0 rfl).2.1 (by omega) (of_decide_eq_true AS) ?_; intro Yx25 bx25 hYx25 hbx25; have HYx25 := Aside0.mk hYx25; have HBx25 := Aside0.mk hbx25; clear hYx25 hbx25) | ((with_reducible refine gate_builtin (b := .append) (xs := #[.tmp 21, .tmp 24]) rfl ?_); refine pA 7 (.tmp 21) (.tmp 24) 44 76 k76 v300 y299 (x297002_1.drop 1) Yx25 ((x297002_1.drop 1).length) bx25 HM rfl Try.underlying44 info76 rfl HYx25.out (by have h_ := LMc26.out; omega) ?_; clear HM; intro v307 w27 HM; replace HM := HM.nm 7 rfl Ny306.out; obtain ⟨Xo28, ko28, eo28⟩ := HM.rdR 7 rfl; subst eo28) | ((with_reducible refine gS 26 rfl ?_); refine pS 5 26 2 [.slice Xo28 y306.length ko28] HM rfl rfl ?_; clear HM; intro w29 HM; obtain ⟨z30_0, z30_1, z30_2, Z30_0, Z30_1, Z30_2⟩ := bk3 (HM.bx 6 rfl)))
     replace HM := nzM HM
     replace H := IT H; rcases H with ⟨c31, H⟩ | ⟨c31, H⟩
     ·have c31b0 : decide (((rd_T76 x297002_1 0).f2) ≤ 1) = true := decide_eq_true c31
      clear c31
      (first | rw [c31b0] | (simp only [i64_w, i32_w]; rw [c31b0]) | skip)
      try go_wp2
      replace H := BN H; obtain ⟨t309, A32, H⟩ := H
      replace H := BN H; obtain ⟨⟨t310, t311, t312, t315, t318⟩, A33, H⟩ := H
      obtain ⟨Xo43, ko43, eo43⟩ := HM.rdR 1 rfl
      subst eo43
      refine RGN 10 [0, 1, 2, 3, 4, 5, 6, 7, 8, 9] (fun a0 b a w' => ∃ (v313 : Value) (v316 : Value) (v319 : Value), a = putSel a0 b [(0, 30, .agg #[.int .i64 t285, .int .i64 t286, .slice Xo28 y306.length ko28, .slice Xo43 x297003_1.length ko43, .slice Xo14 t293.length ko14]), (1, 31, .pointer (some ⟨gb298, 0, none⟩)), (2, 32, .string ((rd_T76 x297002_1 0).f0)), (3, 33, .int .i64 t309), (4, 34, .agg #[.int .i64 t310, .int .i64 t311, v313, v316, v319]), (5, 35, .pointer (some ⟨gb298, 0, none⟩)), (6, 36, .string ((rd_T76 x297002_1 0).f0)), (8, 3, .string ((rd_T76 x297002_1 0).f0)), (9, 4, .bool true)] ∧ Mem w [] w' [rowR k76 76 (.slice (some ad297) x297002_1.length ko17) x297002_1, sel (b 4) (emp) (rowR k76 76 (.slice Xo43 x297003_1.length ko43) x297003_1), row (Kd.int .i64) 3 (.slice Xo14 t293.length ko14) t293, box 65 gb282 [.int .i64 a0_0, .int .i64 a0_1, .slice A0_2 l0_2.length c0_2, .slice A0_3 l0_3.length c0_3, .slice A0_4 l0_4.length c0_4], sel (b 7) (box 65 gb283 [.int .i64 t310, .int .i64 t311, v313, v316, v319]) (box 65 gb283 [.int .i64 x284000_1, .int .i64 x284001_1, .slice none 0 0, .slice none 0 0, .slice none 0 0]), box 65 gb296 [.int .i64 t285, .int .i64 t286, .slice Xo28 y306.length ko28, .slice Xo43 x297003_1.length ko43, .slice Xo14 t293.length ko14], box 76 gb298 [.string ((rd_T76 x297002_1 0).f0), .string ((rd_T76 x297002_1 0).f1), .int .i64 ((rd_T76 x297002_1 0).f2)], sel (b 4) (emp) (rowR k76 76 (.slice Xo28 y306.length ko28) y306), sel (b 4) (rowR k76 76 v313 t312) (emp), sel (b 4) (rowR k76 76 v316 t315) (emp), sel (b 4) (row (Kd.int .i64) 3 v319 t318) (emp)]) spec_EvictSmall.tab8 spec_EvictSmall.bits8 ?_ ?_ ?_
      ·exact ⟨.bool false, .bool false, .bool false, PS0' rfl _, (HM.drew.ems 3).pick [0, 1, 2, 3, 4, 5, 6, 7, 8, 9, 10]⟩
      ·clear HM
       refine steps_cons ?_ ?_
       ·rintro b a w ⟨v313, v316, v319, ha, HM⟩ hb hon hoff
        refine ⟨_, rfl, fun K hK => ?_⟩
        replace ha := Aside0.mk ha
        obtain ⟨z44_0, z44_1, z44_2, z44_3, z44_4, Z44_0, Z44_1, Z44_2, Z44_3, Z44_4⟩ := bk5 (HM.bx 5 rfl)
        have e5 := PG ha 5
        exact VL (.agg #[.int .i64 t285, .int .i64 t286, .slice Xo28 y306.length ko28, .slice Xo43 x297003_1.length ko43, .slice Xo14 t293.length ko14]) (hK.out _ _ ⟨v313, v316, v319, PUT ha 0 hb, HM⟩)
       refine steps_cons ?_ ?_
       ·rintro b a w ⟨v313, v316, v319, ha, HM⟩ hb hon hoff
        refine ⟨_, rfl, fun K hK => ?_⟩
        replace ha := Aside0.mk ha
        have e6 := PG ha 6
        exact VL (.pointer (some ⟨gb298, 0, none⟩)) (hK.out _ _ ⟨v313, v316, v319, PUT ha 1 hb, HM⟩)
       refine steps_cons ?_ ?_
       ·rintro b a w ⟨v313, v316, v319, ha, HM⟩ hb hon hoff
        refine ⟨_, rfl, fun K hK => ?_⟩
        replace ha := Aside0.mk ha
        obtain ⟨z45_0, z45_1, z45_2, Z45_0, Z45_1, Z45_2⟩ := bk3 (HM.bx 6 rfl)
        have e31 := PE ha 1 hon
        exact VL (.string ((rd_T76 x297002_1 0).f0)) (hK.out _ _ ⟨v313, v316, v319, PUT ha 2 hb, HM⟩)
       refine steps_cons ?_ ?_
       ·rintro b a w ⟨v313, v316, v319, ha, HM⟩ hb hon hoff
        refine ⟨_, rfl, fun K hK => ?_⟩
        replace ha := Aside0.mk ha
        have e32 := PE ha 2 hon
        refine ST (eC (some 33) rfl #[.string ((rd_T76 x297002_1 0).f0)] rfl Try.func111 (spec_Hash.calls k1 ((rd_T76 x297002_1 0).f0) t309 _ A32.out) ?_ (hargs := by (simp only [List.map_toArray, List.map_cons, List.map_nil, evc, eval_of e32]) <;> rfl))
        rintro e w46 ⟨rfl, hd⟩
        refine ⟨_, rfl, ?_⟩
        replace HM := HM.drawn hd
        clear hd
        exact hK.out _ _ ⟨v313, v316, v319, PUT ha 3 hb, (HM).pick [0, 1, 2, 3, 4, 5, 6, 7, 8, 9, 10]⟩
       refine steps_cons ?_ ?_
       ·rintro b a w ⟨v313, v316, v319, ha, HM⟩ hb hon hoff
        refine ⟨_, rfl, fun K hK => ?_⟩
        replace ha := Aside0.mk ha
        replace HM := HM.sF 1 rfl hb
        replace HM := HM.sF 7 rfl hb
        have e30 := PE ha 0 hon
        have e33 := PE ha 3 hon
        refine ST (eC (some 34) rfl #[.agg #[.int .i64 t285, .int .i64 t286, .slice Xo28 y306.length ko28, .slice Xo43 x297003_1.length ko43, .slice Xo14 t293.length ko14], .int .i64 t309] rfl Try.func130 (spec_l10Haunt.calls k1 t285 t286 (.slice Xo28 y306.length ko28) y306 (.slice Xo43 x297003_1.length ko43) x297003_1 Xo14 ko14 t293 t309 t310 t311 t312 t315 t318 _ _ _ (HM.focus [0, 3, 4, 5, 6, 8, 9, 10] [7, 1, 2]) A33.out) ?_ (hargs := by (simp only [List.map_toArray, List.map_cons, List.map_nil, evc, eval_of e30, eval_of e33]) <;> rfl))
        rintro e w47 ⟨v313, v316, v319, rfl, hR⟩
        refine ⟨_, rfl, ?_⟩
        replace HM := nzM hR.unfocus
        clear hR
        exact hK.out _ _ ⟨v313, v316, v319, PUT ha 4 hb, ((HM.em.em.sF 2 rfl (hoff 7 (by kernel_rfl))).iF 2 rfl (hoff 7 (by kernel_rfl))).pick [0, 12, 11, 1, 2, 3, 4, 13, 8, 9, 10]⟩
       refine steps_cons ?_ ?_
       ·rintro b a w ⟨v313, v316, v319, ha, HM⟩ hb hon hoff
        refine ⟨_, rfl, fun K hK => ?_⟩
        replace ha := Aside0.mk ha
        have e6 := PG ha 6
        exact VL (.pointer (some ⟨gb298, 0, none⟩)) (hK.out _ _ ⟨v313, v316, v319, PUT ha 5 hb, HM⟩)
       refine steps_cons ?_ ?_
       ·rintro b a w ⟨v313, v316, v319, ha, HM⟩ hb hon hoff
        refine ⟨_, rfl, fun K hK => ?_⟩
        replace ha := Aside0.mk ha
        obtain ⟨z48_0, z48_1, z48_2, Z48_0, Z48_1, Z48_2⟩ := bk3 (HM.bx 6 rfl)
        have e35 := PE ha 5 hon
        exact VL (.string ((rd_T76 x297002_1 0).f0)) (hK.out _ _ ⟨v313, v316, v319, PUT ha 6 hb, HM⟩)
       refine steps_cons ?_ ?_
       ·rintro b a w ⟨v313, v316, v319, ha, HM⟩ hb hon hoff
        refine ⟨_, rfl, fun K hK => ?_⟩
        replace ha := Aside0.mk ha
        replace HM := HM.sF 4 rfl hb
        replace HM := HM.sT 8 rfl (hon 4 (by kernel_rfl))
        replace HM := HM.sT 9 rfl (hon 4 (by kernel_rfl))
        replace HM := HM.sT 10 rfl (hon 4 (by kernel_rfl))
        obtain ⟨Xo49, ko49, eo49⟩ := HM.rdR 8 rfl
        subst eo49
        obtain ⟨Xo50, ko50, eo50⟩ := HM.rdR 9 rfl
        subst eo50
        obtain ⟨Xo51, ko51, eo51⟩ := HM.rd 10 rfl
        subst eo51
        have e2 := PG ha 2
        have e34 := PE ha 4 hon
        refine ST (eS 4 2 0 [.int .i64 t310, .int .i64 t311, .slice Xo49 t312.length ko49, .slice Xo50 t315.length ko50, .slice Xo51 t318.length ko51] HM rfl rfl ?_ (hp := (eval_of e2)) (hx := (by rw [eval_of e34]; rfl)))
        clear HM
        intro w52 HM
        exact hK.out _ _ ⟨.slice Xo49 t312.length ko49, .slice Xo50 t315.length ko50, .slice Xo51 t318.length ko51, PUS ha, (((HM.iT 8 rfl (hon 4 (by kernel_rfl))).iT 9 rfl (hon 4 (by kernel_rfl))).iT 10 rfl (hon 4 (by kernel_rfl))).pick [0, 1, 2, 3, 4, 5, 6, 7, 8, 9, 10]⟩
       refine steps_cons ?_ ?_
       ·rintro b a w ⟨v313, v316, v319, ha, HM⟩ hb hon hoff
        refine ⟨_, rfl, fun K hK => ?_⟩
        replace ha := Aside0.mk ha
        have e36 := PE ha 6 hon
        exact VL (.string ((rd_T76 x297002_1 0).f0)) (hK.out _ _ ⟨v313, v316, v319, PUT ha 7 hb, HM⟩)
       refine steps_cons ?_ ?_
       ·rintro b a w ⟨v313, v316, v319, ha, HM⟩ hb hon hoff
        refine ⟨_, rfl, fun K hK => ?_⟩
        replace ha := Aside0.mk ha
        exact VL (.bool true) (hK.out _ _ ⟨v313, v316, v319, PUT ha 8 hb, HM⟩)
       exact steps_nil
      rintro _ w53 ⟨v313, v316, v319, rfl, HM⟩
      replace HM := HM.sT 1 rfl rfl
      replace HM := HM.sT 4 rfl rfl
      replace HM := HM.sT 7 rfl rfl
      replace HM := HM.sT 8 rfl rfl
      replace HM := HM.sT 9 rfl rfl
      replace HM := HM.sT 10 rfl rfl
      simp only [putSel, if_true, Act.put, List.setIfInBounds_toArray, List.set_cons_zero, List.set_cons_succ, gt_iff_lt, ge_iff_le]
      simp only [Option.some.injEq, Prod.mk.injEq] at H
      obtain ⟨rfl, rfl, rfl, rfl, rfl, rfl, rfl⟩ := H
      go_wp2
      refine bodyPost_ret (results_ctt rfl _ _ gb283 65 #[.int .i64 t310, .int .i64 t311, v313, v316, v319] (0, 0) _ rfl (HM.bx 4 rfl) Try.underlying65 rfl (by kernel_rfl)) rfl ?_
      exact ⟨_, _, _, ER, (MD HM).pick [8, 9, 10]⟩
     ·have c31b0 : decide (((rd_T76 x297002_1 0).f2) ≤ 1) = false := decide_eq_false c31
      clear c31
      (first | rw [c31b0] | (simp only [i64_w, i32_w]; rw [c31b0]) | skip)
      replace H := GD H; obtain ⟨c57, H⟩ := H
      have LMc57 := Aside0.mk c57
      clear c57
      have H' := Aside0.mk H
      clear H
      go_wp2_with (first | ((with_reducible refine gS 37 rfl ?_); refine pS 6 37 2 [.int .i64 0] HM rfl rfl ?_; clear HM; intro w54 HM; obtain ⟨z55_0, z55_1, z55_2, z55_3, z55_4, Z55_0, Z55_1, Z55_2, Z55_3, Z55_4⟩ := bk5 (HM.bx 5 rfl); obtain ⟨z56_0, z56_1, z56_2, Z56_0, Z56_1, Z56_2⟩ := bk3 (HM.bx 6 rfl)) | ((with_reducible refine gN 41 rfl ?_); refine pL 41 k76 76 [(⟨(rd_T76 x297002_1 0).f0, (rd_T76 x297002_1 0).f1, 0⟩ : S76)] [.string ((rd_T76 x297002_1 0).f0), .string ((rd_T76 x297002_1 0).f1), .int .i64 0] (Reps.c3 (show Kd.M k76 _ _ _ (⟨(rd_T76 x297002_1 0).f0, (rd_T76 x297002_1 0).f1, 0⟩ : S76) [.string ((rd_T76 x297002_1 0).f0), .string ((rd_T76 x297002_1 0).f1), .int .i64 0] from (k76_mkM _ _ _ (⟨(rd_T76 x297002_1 0).f0, (rd_T76 x297002_1 0).f1, 0⟩ : S76))) (Reps.none _ _)) HM rfl ?_; clear HM; intro v59 w58 HM; obtain ⟨Xv59, kv59, ev59⟩ := HM.rdR 8 rfl; subst ev59) | ((with_reducible refine gate_builtin (b := .append) (xs := #[.tmp 39, .tmp 41]) rfl ?_); refine pA 1 (.tmp 39) (.tmp 41) 44 76 k76 u297003 x297003_1 [(⟨(rd_T76 x297002_1 0).f0, (rd_T76 x297002_1 0).f1, 0⟩ : S76)] Xv59 ([(⟨(rd_T76 x297002_1 0).f0, (rd_T76 x297002_1 0).f1, 0⟩ : S76)].length) kv59 HM rfl Try.underlying44 info76 rfl (HM.CR 8 rfl).2.2 (by have h_ := LMc57.out; simp only [List.length_singleton]; omega) ?_; clear HM; intro v322 w60 HM; obtain ⟨Xo61, ko61, eo61⟩ := HM.rdR 1 rfl; subst eo61) | ((with_reducible refine gS 43 rfl ?_); refine pS 5 43 3 [.slice Xo61 (x297003_1 ++ [(⟨(rd_T76 x297002_1 0).f0, (rd_T76 x297002_1 0).f1, 0⟩ : S76)]).length ko61] HM rfl rfl ?_; clear HM; intro w62 HM))
      go_roundg k1
      case measure => have := HK1.out; omega
      case rel => exact ⟨(x284000_1), (x284001_1), (y306), ((x297003_1 ++ [(⟨(rd_T76 x297002_1 0).f0, (rd_T76 x297002_1 0).f1, 0⟩ : S76)])), (.slice Xo28 y306.length ko28), (.slice Xo61 (x297003_1 ++ [(⟨(rd_T76 x297002_1 0).f0, (rd_T76 x297002_1 0).f1, 0⟩ : S76)]).length ko61), H', ⟨by have := HK1.out; omega⟩, (MD HM).pick [7, 1, 2, 3, 4, 5]⟩
    ·replace c18 : ¬ ((x297002_1.length : Int) > 0) := c18
     have c18b0 : decide (0 < (x297002_1.length : Int)) = false := decide_eq_false c18
     have c18b1 : decide (0 < x297002_1.length) = false := decide_eq_false (by omega)
     have c18b9 : decide (0 < x297002_1.length) = false := decide_eq_false (by omega)
     clear c18
     (first | rw [c18b0] | rw [c18b9] | (simp only [i64_w, i32_w]; rw [c18b0]) | skip)
     simp only [Option.some.injEq, Prod.mk.injEq] at H
     obtain ⟨rfl, rfl, rfl, rfl, rfl, rfl, rfl⟩ := H
     obtain ⟨Xo63, ko63, eo63⟩ := HM.rdR 1 rfl
     subst eo63
     go_wp2_with (first | ((with_reducible refine gS 2 rfl ?_); refine pS 4 2 0 [.int .i64 t285, .int .i64 t286, .slice Xo17 x297002_1.length ko17, .slice Xo63 x297003_1.length ko63, .slice Xo14 t293.length ko14] HM rfl rfl ?_; clear HM; intro w64 HM))
     refine bodyPost_ret (results_ctt rfl _ _ gb283 65 #[.int .i64 t285, .int .i64 t286, .slice Xo17 x297002_1.length ko17, .slice Xo63 x297003_1.length ko63, .slice Xo14 t293.length ko14] (0, 0) _ rfl (HM.bx 4 rfl) Try.underlying65 rfl (by kernel_rfl)) rfl ?_
     exact ⟨_, _, _, ER, (MD HM).pick [0, 1, 2]⟩
 ·subst c7
  simp only [Option.some.injEq, Prod.mk.injEq] at H
  obtain ⟨rfl, rfl, rfl, rfl, rfl, rfl, rfl⟩ := H
  go_wp2_with (first | ((with_reducible refine gS 2 rfl ?_); refine pS 1 2 0 [.int .i64 0, .int .i64 0, .slice none 0 0, .slice none 0 0, .slice none 0 0] HM rfl rfl ?_; clear HM; intro w65 HM; replace HM := HM.nl k76 76; replace HM := HM.nl k76 76; replace HM := HM.nl (Kd.int .i64) 3; replace HM := HM.toQ 4 rfl))
  refine bodyPost_ret (results_ctt rfl _ _ gb283 65 #[.int .i64 0, .int .i64 0, .slice none 0 0, .slice none 0 0, .slice none 0 0] (0, 0) _ rfl (HM.bx 1 rfl) Try.underlying65 rfl (by kernel_rfl)) rfl ?_
  exact ⟨_, _, _, ER, (MD HM).pick [2, 3, 4]⟩
def spec_EvictMain.l0 : Nat → Int → Int → List (S76) → List (S76) → List Int → Option (Int × Int × (List (S76)) × (List (S76)) × List Int × ByteArray × Bool)
 | 0, _, _, _, _, _ => none
 | k + 1, x342000, x342001, x342002, x342003, x342004 => if (x342003.length : Int) > 0 then (if 0 < (x342003.length : Int) then ((some (([] : List (S76)) : List (S76))).bind fun y344 => (if 1 ≤ (x342003.length : Int) then ((some (x342003.drop 1 : List (S76))).bind fun y347 => (if y344.length + y347.length < 3518437208883 then ((some (y344 ++ y347 : List (S76))).bind fun y351 => (if ((rd_T76 x342003 0).f2) = 0 then (some (x342000, x342001, x342002, y351, x342004, (rd_T76 x342003 0).f0, true)) else (if y351.length < 3518437208883 then (spec_EvictMain.l0 k x342000 x342001 x342002 (y351 ++ [(⟨(rd_T76 x342003 0).f0, (rd_T76 x342003 0).f1, wrap64 (((rd_T76 x342003 0).f2) - 1)⟩ : S76)]) x342004) else (none)))) else (none))) else (none))) else (none)) else (some (x342000, x342001, x342002, x342003, x342004, (⟨#[]⟩ : ByteArray), false))
def spec_EvictMain.f (k : Nat) (a0_0 : Int) (a0_1 : Int) (l0_2 : List (S76)) (l0_3 : List (S76)) (l0_4 : List Int) : Option (Int × Int × (List (S76)) × (List (S76)) × List Int × ByteArray × Bool) := (spec_ThreeOk.f k a0_0 a0_1 l0_2 l0_3 l0_4).bind fun t329 => (if t329 = true then ((spec_l10Copy.f a0_0 a0_1 l0_2 l0_3 l0_4).bind fun bt330 => (spec_EvictMain.l0 k bt330.1 bt330.2.1 bt330.2.2.1 bt330.2.2.2.1 bt330.2.2.2.2)) else (some (0, 0, ([] : List (S76)), ([] : List (S76)), ([] : List Int), (⟨#[]⟩ : ByteArray), false)))
def spec_EvictMain.T8 : Bool × List (List Nat × List Nat) := (true, [([], []), ([], []), ([1], [1]), ([0, 0], [0]), ([2, 3, 0, 1, 2, 3], [2]), ([4, 0, 1, 2, 3, 4], [])])
def spec_EvictMain.B8 : List Nat := [0, 0, 2, 1, 15, 31]
theorem spec_EvictMain.tab8 : rtab .any (opsOf Try.f124 8) = spec_EvictMain.T8 := by kernel_rfl
theorem spec_EvictMain.bits8 : waitsOk spec_EvictMain.T8.2 spec_EvictMain.B8 = true := by kernel_rfl
set_option maxHeartbeats 8000000 in
set_option maxRecDepth 100000 in
theorem spec_EvictMain.calls (k : Nat) (a0_0 : Int) (a0_1 : Int) (A0_2 : Option Addr) (c0_2 : Nat) (l0_2 : List (S76)) (A0_3 : Option Addr) (c0_3 : Nat) (l0_3 : List (S76)) (A0_4 : Option Addr) (c0_4 : Nat) (l0_4 : List Int) (r1 : Int) (r2 : Int) (r3 : List (S76)) (r4 : List (S76)) (r5 : List Int) (r6 : ByteArray) (r7 : Bool) (w : World) (hr0_2 : Kd.C k76 w A0_2 l0_2.length l0_2) (hc0_2 : l0_2.length ≤ c0_2) (hr0_3 : Kd.C k76 w A0_3 l0_3.length l0_3) (hc0_3 : l0_3.length ≤ c0_3) (hr0_4 : Kd.C (Kd.int .i64) w A0_4 l0_4.length l0_4) (hc0_4 : l0_4.length ≤ c0_4) (h : spec_EvictMain.f k a0_0 a0_1 l0_2 l0_3 l0_4 = some (r1, r2, r3, r4, r5, r6, r7)) :
  Calls Try.prog 124 #[.agg #[.int .i64 a0_0, .int .i64 a0_1, .slice A0_2 l0_2.length c0_2, .slice A0_3 l0_3.length c0_3, .slice A0_4 l0_4.length c0_4]] w fun e w' => ∃ v2_ v3_ v4_ : Value, e = .returned (.tuple #[.agg #[.int .i64 r1, .int .i64 r2, v2_, v3_, v4_], .string r6, .bool r7]) ∧ Mem w [] w' [rowR k76 76 v2_ r3, rowR k76 76 v3_ r4, rowR (Kd.int .i64) 3 v4_ r5] := by
 have hu65 := Try.underlying65
 have hu76 := Try.underlying76
 have HR0_2 := Aside0.mk hr0_2
 have HC0_2 := Aside0.mk hc0_2
 clear hr0_2 hc0_2
 have HR0_3 := Aside0.mk hr0_3
 have HC0_3 := Aside0.mk hc0_3
 clear hr0_3 hc0_3
 have HR0_4 := Aside0.mk hr0_4
 have HC0_4 := Aside0.mk hc0_4
 clear hr0_4 hc0_4
 have HM := Mem.nil w
 have H := h
 clear h
 unfold spec_EvictMain.f at H
 go_enter Try.func124, Try.ntmps124
 replace H := BN H; obtain ⟨t329, A5, H⟩ := H
 go_upto_if 9 with (first | ((with_reducible refine gN 1 rfl ?_); refine pB 1 65 [.int .i64 a0_0, .int .i64 a0_1, .slice A0_2 l0_2.length c0_2, .slice A0_3 l0_3.length c0_3, .slice A0_4 l0_4.length c0_4] HM rfl ?_; clear HM; intro gb327 w2 HM) | ((with_reducible refine gN 2 rfl ?_); refine pB 2 65 [.int .i64 0, .int .i64 0, .slice none 0 0, .slice none 0 0, .slice none 0 0] HM rfl ?_; clear HM; intro gb328 w3 HM; obtain ⟨z4_0, z4_1, z4_2, z4_3, z4_4, Z4_0, Z4_1, Z4_2, Z4_3, Z4_4⟩ := bk5 (HM.bx 0 rfl)) | ((with_reducible refine gC 91 rfl ?_); refine pC (some 8) rfl #[.agg #[.int .i64 a0_0, .int .i64 a0_1, .slice A0_2 l0_2.length c0_2, .slice A0_3 l0_3.length c0_3, .slice A0_4 l0_4.length c0_4]] rfl Try.func91 (spec_ThreeOk.calls k a0_0 a0_1 _ _ l0_2 _ _ l0_3 _ _ l0_4 t329 _ (HM.came HR0_2.out) HC0_2.out (HM.came HR0_3.out) HC0_3.out (HM.came HR0_4.out) HC0_4.out A5.out) ?_; rintro e w6 ⟨rfl, hR⟩; refine ⟨_, rfl, ?_⟩; replace HM := HM.call hR; clear hR))
 replace HM := nzM HM
 replace H := IB H
 rcases H with ⟨c7, H⟩ | ⟨c7, H⟩
 ·subst c7
  replace H := BN H; obtain ⟨⟨t330, t331, t332, t335, t338⟩, A9, H⟩ := H
  have H' := Aside0.mk H
  clear H
  obtain ⟨z8_0, z8_1, z8_2, z8_3, z8_4, Z8_0, Z8_1, Z8_2, Z8_3, Z8_4⟩ := bk5 (HM.bx 0 rfl)
  go_wp2_with (first | ((with_reducible refine gC 109 rfl ?_); refine pC (some 12) rfl #[.agg #[.int .i64 a0_0, .int .i64 a0_1, .slice A0_2 l0_2.length c0_2, .slice A0_3 l0_3.length c0_3, .slice A0_4 l0_4.length c0_4]] rfl Try.func109 (spec_l10Copy.calls a0_0 a0_1 _ _ l0_2 _ _ l0_3 _ _ l0_4 t330 t331 t332 t335 t338 _ (HM.came HR0_2.out) HC0_2.out (HM.came HR0_3.out) HC0_3.out (HM.came HR0_4.out) HC0_4.out A9.out) ?_; rintro e w10 ⟨v333, v336, v339, rfl, hR⟩; refine ⟨_, rfl, ?_⟩; replace HM := HM.call hR; clear hR) | ((with_reducible refine gN 5 rfl ?_); refine pB 5 65 [.int .i64 0, .int .i64 0, .slice none 0 0, .slice none 0 0, .slice none 0 0] HM rfl ?_; clear HM; intro gb341 w11 HM; obtain ⟨Xo12, ko12, eo12⟩ := HM.rdR 2 rfl; subst eo12; obtain ⟨Xo13, ko13, eo13⟩ := HM.rdR 3 rfl; subst eo13; obtain ⟨Xo14, ko14, eo14⟩ := HM.rdR 4 rfl; subst eo14) | ((with_reducible refine gS 5 rfl ?_); refine pS 5 5 0 [.int .i64 t330, .int .i64 t331, .slice Xo12 t332.length ko12, .slice Xo13 t335.length ko13, .slice Xo14 t338.length ko14] HM rfl rfl ?_; clear HM; intro w15 HM))
  go_loopg [] k (fun kq w' => ∃ (x329000_1 : Int) (x329001_1 : Int) (x342003_1 : List (S76)) (u342003 : Value), Aside0 (spec_EvictMain.l0 kq t330 t331 t332 x342003_1 t338 = some (r1, r2, r3, r4, r5, r6, r7)) ∧ Aside0 (kq ≤ k) ∧ Mem w [] w' [rowR k76 76 (.slice Xo12 t332.length ko12) t332, rowR k76 76 u342003 x342003_1, rowR (Kd.int .i64) 3 (.slice Xo14 t338.length ko14) t338, box 65 gb327 [.int .i64 a0_0, .int .i64 a0_1, .slice A0_2 l0_2.length c0_2, .slice A0_3 l0_3.length c0_3, .slice A0_4 l0_4.length c0_4], box 65 gb328 [.int .i64 x329000_1, .int .i64 x329001_1, .slice none 0 0, .slice none 0 0, .slice none 0 0], box 65 gb341 [.int .i64 t330, .int .i64 t331, (.slice Xo12 t332.length ko12), u342003, (.slice Xo14 t338.length ko14)]])
  case atStart => exact ⟨(0), (0), (t335), (.slice Xo13 t335.length ko13), H', ⟨Nat.le_refl _⟩, (MD HM).pick [2, 3, 4, 0, 1, 5]⟩
  case round =>
   clear H' HM
   obtain ⟨x329000_1, x329001_1, x342003_1, u342003, HA, HK1, HM⟩ := hrel
   cases gk with
   | zero => exact absurd HA.out (by simp [spec_EvictMain.l0])
   | succ k1 =>
    have H := HA.out
    clear HA
    simp only [spec_EvictMain.l0] at H
    obtain ⟨z16_0, z16_1, z16_2, z16_3, z16_4, Z16_0, Z16_1, Z16_2, Z16_3, Z16_4⟩ := bk5 (HM.bx 5 rfl)
    obtain ⟨Xo17, ko17, eo17⟩ := HM.rdR 1 rfl
    subst eo17
    go_upto_if 16 with (fail)
    replace H := IT H; rcases H with ⟨c18, H⟩ | ⟨c18, H⟩
    ·replace c18 : (x342003_1.length : Int) > 0 := c18
     have c18b0 : decide (0 < (x342003_1.length : Int)) = true := decide_eq_true c18
     have c18b1 : decide (0 < x342003_1.length) = true := decide_eq_true (by omega)
     have c18b9 : decide (0 < x342003_1.length) = true := decide_eq_true (by omega)
     clear c18
     (first | rw [c18b0] | rw [c18b9] | (simp only [i64_w, i32_w]; rw [c18b0]) | skip)
     replace H := GD H; obtain ⟨c19, H⟩ := H
     replace c19 : 0 < (x342003_1.length : Int) := c19
     have c19b0 : decide (0 < (x342003_1.length : Int)) = true := decide_eq_true c19
     have c19b1 : decide (0 < x342003_1.length) = true := decide_eq_true (by omega)
     have c19b9 : decide (0 < x342003_1.length) = true := decide_eq_true (by omega)
     clear c19
     replace H := BLt H; obtain ⟨y344, Ny344, H⟩ := H
     replace Ny344 := Aside0.mk Ny344
     replace H := GD H; obtain ⟨c24, H⟩ := H
     have c24b0 := eq_true c24
     have c24b1 : decide (1 ≤ (x342003_1.length : Int)) = true := decide_eq_true c24
     clear c24
     replace H := BLt H; obtain ⟨_, rfl, H⟩ := H
     replace H := GD H; obtain ⟨c26, H⟩ := H
     have LMc26 := Aside0.mk c26
     clear c26
     replace H := BLt H; obtain ⟨y351, Ny351, H⟩ := H
     replace Ny351 := Aside0.mk Ny351
     have p342 : 0 ≤ (0 : Int) := (by omega)
     have q342 : (0 : Int) < (x342003_1.length : Int) := of_decide_eq_true AS
     obtain ⟨ad342, e342, hx342_0, hx342_1, hx342_2⟩ := at_T76 (HM.CR 1 rfl).2.2 0 p342 q342
     cases e342
     have qi342 : (0 < x342003_1.length) = True := eq_true (by omega)
     (try rw [show ((0 : Int)).toNat = 0 from rfl] at hx342_0)
     (try rw [show 0 * 3 = 0 from rfl] at hx342_0)
     (try rw [Addr.add_zero'] at hx342_0)
     (try rw [show ((0 : Int)).toNat = 0 from rfl] at hx342_1)
     (try rw [show 0 * 3 = 0 from rfl] at hx342_1)
     (try rw [Addr.add_zero'] at hx342_1)
     (try rw [show ((0 : Int)).toNat = 0 from rfl] at hx342_2)
     (try rw [show 0 * 3 = 0 from rfl] at hx342_2)
     (try rw [Addr.add_zero'] at hx342_2)
     replace p342 := eq_true p342
     replace q342 := eq_true q342
     go_upto_if 29 with (first | ((with_reducible refine gN 6 rfl ?_); refine pB 6 76 [.string (⟨#[]⟩ : ByteArray), .string (⟨#[]⟩ : ByteArray), .int .i64 0] HM rfl ?_; clear HM; intro gb343 w20 HM) | ((with_reducible refine gS 6 rfl ?_); refine pS 6 6 0 [.string ((rd_T76 x342003_1 0).f0), .string ((rd_T76 x342003_1 0).f1), .int .i64 ((rd_T76 x342003_1 0).f2)] HM rfl rfl ?_; clear HM; intro w21 HM) | ((with_reducible refine gN 21 rfl ?_); refine pL 21 k76 76 ([] : List (S76)) [] (Reps.none _ _) HM rfl ?_; clear HM; intro v345 w22 HM; replace HM := HM.nm 7 rfl Ny344.out; obtain ⟨z23_0, z23_1, z23_2, z23_3, z23_4, Z23_0, Z23_1, Z23_2, Z23_3, Z23_4⟩ := bk5 (HM.bx 5 rfl)) | ((with_reducible refine gate_sl (t := 44) rfl ?_); refine pRd 44 76 k76 _ _ 1 x342003_1 (some ad342) ko17 rfl Try.underlying44 info76 (HM.CR 1 rfl).2.2 (HM.CR 1 rfl).2.1 (by omega) (of_decide_eq_true AS) ?_; intro Yx25 bx25 hYx25 hbx25; have HYx25 := Aside0.mk hYx25; have HBx25 := Aside0.mk hbx25; clear hYx25 hbx25) | ((with_reducible refine gate_builtin (b := .append) (xs := #[.tmp 21, .tmp 24]) rfl ?_); refine pA 7 (.tmp 21) (.tmp 24) 44 76 k76 v345 y344 (x342003_1.drop 1) Yx25 ((x342003_1.drop 1).length) bx25 HM rfl Try.underlying44 info76 rfl HYx25.out (by have h_ := LMc26.out; omega) ?_; clear HM; intro v352 w27 HM; replace HM := HM.nm 7 rfl Ny351.out; obtain ⟨Xo28, ko28, eo28⟩ := HM.rdR 7 rfl; subst eo28) | ((with_reducible refine gS 26 rfl ?_); refine pS 5 26 3 [.slice Xo28 y351.length ko28] HM rfl rfl ?_; clear HM; intro w29 HM; obtain ⟨z30_0, z30_1, z30_2, Z30_0, Z30_1, Z30_2⟩ := bk3 (HM.bx 6 rfl)))
     replace HM := nzM HM
     replace H := IT H; rcases H with ⟨c31, H⟩ | ⟨c31, H⟩
     ·have c31b0 : (((rd_T76 x342003_1 0).f2) == 0) = true := beq_iff_eq.mpr c31
      have c31b1 : (((rd_T76 x342003_1 0).f2) != 0) = false := bne_eq_false_iff_eq.mpr c31
      clear c31
      (first | rw [c31b0] | (simp only [i64_w, i32_w]; rw [c31b0]) | skip)
      try go_wp2
      refine RGN 6 [0, 1, 2, 3, 4, 5] (fun a0 b a w' => a = putSel a0 b [(0, 30, .agg #[.int .i64 t330, .int .i64 t331, .slice Xo12 t332.length ko12, .slice Xo28 y351.length ko28, .slice Xo14 t338.length ko14]), (1, 31, .pointer (some ⟨gb343, 0, none⟩)), (2, 32, .string ((rd_T76 x342003_1 0).f0)), (4, 3, .string ((rd_T76 x342003_1 0).f0)), (5, 4, .bool true)] ∧ Mem w [] w' [rowR k76 76 (.slice Xo12 t332.length ko12) t332, rowR k76 76 (.slice (some ad342) x342003_1.length ko17) x342003_1, rowR (Kd.int .i64) 3 (.slice Xo14 t338.length ko14) t338, box 65 gb327 [.int .i64 a0_0, .int .i64 a0_1, .slice A0_2 l0_2.length c0_2, .slice A0_3 l0_3.length c0_3, .slice A0_4 l0_4.length c0_4], sel (b 3) (box 65 gb328 [.int .i64 t330, .int .i64 t331, .slice Xo12 t332.length ko12, .slice Xo28 y351.length ko28, .slice Xo14 t338.length ko14]) (box 65 gb328 [.int .i64 x329000_1, .int .i64 x329001_1, .slice none 0 0, .slice none 0 0, .slice none 0 0]), box 65 gb341 [.int .i64 t330, .int .i64 t331, .slice Xo12 t332.length ko12, .slice Xo28 y351.length ko28, .slice Xo14 t338.length ko14], box 76 gb343 [.string ((rd_T76 x342003_1 0).f0), .string ((rd_T76 x342003_1 0).f1), .int .i64 ((rd_T76 x342003_1 0).f2)], rowR k76 76 (.slice Xo28 y351.length ko28) y351]) spec_EvictMain.tab8 spec_EvictMain.bits8 ?_ ?_ ?_
      ·exact ⟨PS0' rfl _, (HM.drew).pick [0, 1, 2, 3, 4, 5, 6, 7]⟩
      ·clear HM
       refine SY ?_ ?_
       ·intro b a w ha HM hb hon hoff K hK
        obtain ⟨z35_0, z35_1, z35_2, z35_3, z35_4, Z35_0, Z35_1, Z35_2, Z35_3, Z35_4⟩ := bk5 (HM.bx 5 rfl)
        have e5 := PG ha 5
        exact VL (.agg #[.int .i64 t330, .int .i64 t331, .slice Xo12 t332.length ko12, .slice Xo28 y351.length ko28, .slice Xo14 t338.length ko14]) (hK.out _ _ ⟨PUT ha 0 hb, HM⟩)
       refine SY ?_ ?_
       ·intro b a w ha HM hb hon hoff K hK
        have e6 := PG ha 6
        exact VL (.pointer (some ⟨gb343, 0, none⟩)) (hK.out _ _ ⟨PUT ha 1 hb, HM⟩)
       refine SY ?_ ?_
       ·intro b a w ha HM hb hon hoff K hK
        obtain ⟨z36_0, z36_1, z36_2, Z36_0, Z36_1, Z36_2⟩ := bk3 (HM.bx 6 rfl)
        have e31 := PE ha 1 hon
        exact VL (.string ((rd_T76 x342003_1 0).f0)) (hK.out _ _ ⟨PUT ha 2 hb, HM⟩)
       refine SY ?_ ?_
       ·intro b a w ha HM hb hon hoff K hK
        replace HM := HM.sF 4 rfl hb
        have e2 := PG ha 2
        have e30 := PE ha 0 hon
        refine ST (eS 4 2 0 [.int .i64 t330, .int .i64 t331, .slice Xo12 t332.length ko12, .slice Xo28 y351.length ko28, .slice Xo14 t338.length ko14] HM rfl rfl ?_ (hp := (eval_of e2)) (hx := (by rw [eval_of e30]; rfl)))
        clear HM
        intro w37 HM
        exact hK.out _ _ ⟨PUS ha, (HM).pick [0, 1, 2, 3, 4, 5, 6, 7]⟩
       refine SY ?_ ?_
       ·intro b a w ha HM hb hon hoff K hK
        have e32 := PE ha 2 hon
        exact VL (.string ((rd_T76 x342003_1 0).f0)) (hK.out _ _ ⟨PUT ha 3 hb, HM⟩)
       refine SY ?_ ?_
       ·intro b a w ha HM hb hon hoff K hK
        exact VL (.bool true) (hK.out _ _ ⟨PUT ha 4 hb, HM⟩)
       exact steps_nil
      rintro _ w38 ⟨rfl, HM⟩
      replace HM := HM.sT 4 rfl rfl
      simp only [putSel, if_true, Act.put, List.setIfInBounds_toArray, List.set_cons_zero, List.set_cons_succ, gt_iff_lt, ge_iff_le]
      simp only [Option.some.injEq, Prod.mk.injEq] at H
      obtain ⟨rfl, rfl, rfl, rfl, rfl, rfl, rfl⟩ := H
      go_wp2
      refine bodyPost_ret (results_ctt rfl _ _ gb328 65 #[.int .i64 t330, .int .i64 t331, .slice Xo12 t332.length ko12, .slice Xo28 y351.length ko28, .slice Xo14 t338.length ko14] (0, 0) _ rfl (HM.bx 4 rfl) Try.underlying65 rfl (by kernel_rfl)) rfl ?_
      exact ⟨_, _, _, ER, (MD HM).pick [0, 7, 2]⟩
     ·have c31b0 : (((rd_T76 x342003_1 0).f2) == 0) = false := beq_eq_false_iff_ne.mpr c31
      have c31b1 : (((rd_T76 x342003_1 0).f2) != 0) = true := bne_iff_ne.mpr c31
      (first | rw [c31b0] | (simp only [i64_w, i32_w]; rw [c31b0]) | skip)
      replace H := GD H; obtain ⟨c42, H⟩ := H
      have LMc42 := Aside0.mk c42
      clear c42
      have H' := Aside0.mk H
      clear H
      go_wp2_with (first | ((with_reducible refine gS 36 rfl ?_); refine pS 6 36 2 [.int .i64 (wrap64 (((rd_T76 x342003_1 0).f2) - 1))] HM rfl rfl ?_; clear HM; intro w39 HM; obtain ⟨z40_0, z40_1, z40_2, z40_3, z40_4, Z40_0, Z40_1, Z40_2, Z40_3, Z40_4⟩ := bk5 (HM.bx 5 rfl); obtain ⟨z41_0, z41_1, z41_2, Z41_0, Z41_1, Z41_2⟩ := bk3 (HM.bx 6 rfl)) | ((with_reducible refine gN 40 rfl ?_); refine pL 40 k76 76 [(⟨(rd_T76 x342003_1 0).f0, (rd_T76 x342003_1 0).f1, wrap64 (((rd_T76 x342003_1 0).f2) - 1)⟩ : S76)] [.string ((rd_T76 x342003_1 0).f0), .string ((rd_T76 x342003_1 0).f1), .int .i64 (wrap64 (((rd_T76 x342003_1 0).f2) - 1))] (Reps.c3 (show Kd.M k76 _ _ _ (⟨(rd_T76 x342003_1 0).f0, (rd_T76 x342003_1 0).f1, wrap64 (((rd_T76 x342003_1 0).f2) - 1)⟩ : S76) [.string ((rd_T76 x342003_1 0).f0), .string ((rd_T76 x342003_1 0).f1), .int .i64 (wrap64 (((rd_T76 x342003_1 0).f2) - 1))] from (k76_mkM _ _ _ (⟨(rd_T76 x342003_1 0).f0, (rd_T76 x342003_1 0).f1, wrap64 (((rd_T76 x342003_1 0).f2) - 1)⟩ : S76))) (Reps.none _ _)) HM rfl ?_; clear HM; intro v44 w43 HM; obtain ⟨Xv44, kv44, ev44⟩ := HM.rdR 8 rfl; subst ev44) | ((with_reducible refine gate_builtin (b := .append) (xs := #[.tmp 38, .tmp 40]) rfl ?_); refine pA 7 (.tmp 38) (.tmp 40) 44 76 k76 (.slice Xo28 y351.length ko28) y351 [(⟨(rd_T76 x342003_1 0).f0, (rd_T76 x342003_1 0).f1, wrap64 (((rd_T76 x342003_1 0).f2) - 1)⟩ : S76)] Xv44 ([(⟨(rd_T76 x342003_1 0).f0, (rd_T76 x342003_1 0).f1, wrap64 (((rd_T76 x342003_1 0).f2) - 1)⟩ : S76)].length) kv44 HM rfl Try.underlying44 info76 rfl (HM.CR 8 rfl).2.2 (by have h_ := LMc42.out; simp only [List.length_singleton]; omega) ?_; clear HM; intro v355 w45 HM; obtain ⟨Xo46, ko46, eo46⟩ := HM.rdR 7 rfl; subst eo46) | ((with_reducible refine gS 42 rfl ?_); refine pS 5 42 3 [.slice Xo46 (y351 ++ [(⟨(rd_T76 x342003_1 0).f0, (rd_T76 x342003_1 0).f1, wrap64 (((rd_T76 x342003_1 0).f2) - 1)⟩ : S76)]).length ko46] HM rfl rfl ?_; clear HM; intro w47 HM))
      go_roundg k1
      case measure => have := HK1.out; omega
      case rel => exact ⟨(x329000_1), (x329001_1), ((y351 ++ [(⟨(rd_T76 x342003_1 0).f0, (rd_T76 x342003_1 0).f1, wrap64 (((rd_T76 x342003_1 0).f2) - 1)⟩ : S76)])), (.slice Xo46 (y351 ++ [(⟨(rd_T76 x342003_1 0).f0, (rd_T76 x342003_1 0).f1, wrap64 (((rd_T76 x342003_1 0).f2) - 1)⟩ : S76)]).length ko46), H', ⟨by have := HK1.out; omega⟩, (MD HM).pick [0, 7, 2, 3, 4, 5]⟩
    ·replace c18 : ¬ ((x342003_1.length : Int) > 0) := c18
     have c18b0 : decide (0 < (x342003_1.length : Int)) = false := decide_eq_false c18
     have c18b1 : decide (0 < x342003_1.length) = false := decide_eq_false (by omega)
     have c18b9 : decide (0 < x342003_1.length) = false := decide_eq_false (by omega)
     clear c18
     (first | rw [c18b0] | rw [c18b9] | (simp only [i64_w, i32_w]; rw [c18b0]) | skip)
     simp only [Option.some.injEq, Prod.mk.injEq] at H
     obtain ⟨rfl, rfl, rfl, rfl, rfl, rfl, rfl⟩ := H
     go_wp2_with (first | ((with_reducible refine gS 2 rfl ?_); refine pS 4 2 0 [.int .i64 t330, .int .i64 t331, .slice Xo12 t332.length ko12, .slice Xo17 x342003_1.length ko17, .slice Xo14 t338.length ko14] HM rfl rfl ?_; clear HM; intro w48 HM))
     refine bodyPost_ret (results_ctt rfl _ _ gb328 65 #[.int .i64 t330, .int .i64 t331, .slice Xo12 t332.length ko12, .slice Xo17 x342003_1.length ko17, .slice Xo14 t338.length ko14] (0, 0) _ rfl (HM.bx 4 rfl) Try.underlying65 rfl (by kernel_rfl)) rfl ?_
     exact ⟨_, _, _, ER, (MD HM).pick [0, 1, 2]⟩
 ·subst c7
  simp only [Option.some.injEq, Prod.mk.injEq] at H
  obtain ⟨rfl, rfl, rfl, rfl, rfl, rfl, rfl⟩ := H
  go_wp2_with (first | ((with_reducible refine gS 2 rfl ?_); refine pS 1 2 0 [.int .i64 0, .int .i64 0, .slice none 0 0, .slice none 0 0, .slice none 0 0] HM rfl rfl ?_; clear HM; intro w49 HM; replace HM := HM.nl k76 76; replace HM := HM.nl k76 76; replace HM := HM.nl (Kd.int .i64) 3))
  refine bodyPost_ret (results_ctt rfl _ _ gb328 65 #[.int .i64 0, .int .i64 0, .slice none 0 0, .slice none 0 0, .slice none 0 0] (0, 0) _ rfl (HM.bx 1 rfl) Try.underlying65 rfl (by kernel_rfl)) rfl ?_
  exact ⟨_, _, _, ER, (MD HM).pick [2, 3, 4]⟩
def spec_Evict.j0 : Nat → Bool → Int → Int → List (S76) → List (S76) → List Int → Option (Int × Int × (List (S76)) × (List (S76)) × List Int × ByteArray × Bool)
 | 0, _, _, _, _, _, _ => none
 | k + 1, x23, x361000, x361001, x361002, x361003, x361004 => if x23 = true then ((spec_EvictSmall.f k x361000 x361001 x361002 x361003 x361004).bind fun bt363 => (if bt363.2.2.2.2.2.2 = true then (some (bt363.1, bt363.2.1, bt363.2.2.1, bt363.2.2.2.1, bt363.2.2.2.2.1, bt363.2.2.2.2.2.1, true)) else ((spec_EvictMain.f k bt363.1 bt363.2.1 bt363.2.2.1 bt363.2.2.2.1 bt363.2.2.2.2.1).bind fun bt377 => (some (bt377.1, bt377.2.1, bt377.2.2.1, bt377.2.2.2.1, bt377.2.2.2.2.1, bt377.2.2.2.2.2.1, bt377.2.2.2.2.2.2))))) else ((spec_EvictMain.f k x361000 x361001 x361002 x361003 x361004).bind fun bt390 => (some (bt390.1, bt390.2.1, bt390.2.2.1, bt390.2.2.2.1, bt390.2.2.2.2.1, bt390.2.2.2.2.2.1, bt390.2.2.2.2.2.2)))
def spec_Evict.f (k : Nat) (a0_0 : Int) (a0_1 : Int) (l0_2 : List (S76)) (l0_3 : List (S76)) (l0_4 : List Int) : Option (Int × Int × (List (S76)) × (List (S76)) × List Int × ByteArray × Bool) := (spec_ThreeOk.f k a0_0 a0_1 l0_2 l0_3 l0_4).bind fun t362 => (if t362 = true then (if (l0_2.length : Int) ≥ a0_1 then (spec_Evict.j0 k true a0_0 a0_1 l0_2 l0_3 l0_4) else (spec_Evict.j0 k ((l0_3.length : Int) == 0) a0_0 a0_1 l0_2 l0_3 l0_4)) else (some (0, 0, ([] : List (S76)), ([] : List (S76)), ([] : List Int), (⟨#[]⟩ : ByteArray), false)))
set_option maxHeartbeats 8000000 in
set_option maxRecDepth 100000 in
theorem spec_Evict.calls (k : Nat) (a0_0 : Int) (a0_1 : Int) (A0_2 : Option Addr) (c0_2 : Nat) (l0_2 : List (S76)) (A0_3 : Option Addr) (c0_3 : Nat) (l0_3 : List (S76)) (A0_4 : Option Addr) (c0_4 : Nat) (l0_4 : List Int) (r1 : Int) (r2 : Int) (r3 : List (S76)) (r4 : List (S76)) (r5 : List Int) (r6 : ByteArray) (r7 : Bool) (w : World) (hr0_2 : Kd.C k76 w A0_2 l0_2.length l0_2) (hc0_2 : l0_2.length ≤ c0_2) (hr0_3 : Kd.C k76 w A0_3 l0_3.length l0_3) (hc0_3 : l0_3.length ≤ c0_3) (hr0_4 : Kd.C (Kd.int .i64) w A0_4 l0_4.length l0_4) (hc0_4 : l0_4.length ≤ c0_4) (h : spec_Evict.f k a0_0 a0_1 l0_2 l0_3 l0_4 = some (r1, r2, r3, r4, r5, r6, r7)) :
  Calls Try.prog 110 #[.agg #[.int .i64 a0_0, .int .i64 a0_1, .slice A0_2 l0_2.length c0_2, .slice A0_3 l0_3.length c0_3, .slice A0_4 l0_4.length c0_4]] w fun e w' => ∃ v2_ v3_ v4_ : Value, e = .returned (.tuple #[.agg #[.int .i64 r1, .int .i64 r2, v2_, v3_, v4_], .string r6, .bool r7]) ∧ Mem w [] w' [rowR k76 76 v2_ r3, rowR k76 76 v3_ r4, row (Kd.int .i64) 3 v4_ r5] := by
 have hu65 := Try.underlying65
 have HR0_2 := Aside0.mk hr0_2
 have HC0_2 := Aside0.mk hc0_2
 clear hr0_2 hc0_2
 have HR0_3 := Aside0.mk hr0_3
 have HC0_3 := Aside0.mk hc0_3
 clear hr0_3 hc0_3
 have HR0_4 := Aside0.mk hr0_4
 have HC0_4 := Aside0.mk hc0_4
 clear hr0_4 hc0_4
 have HM := Mem.nil w
 have H := h
 clear h
 unfold spec_Evict.f at H
 go_enter Try.func110, Try.ntmps110
 replace H := BN H; obtain ⟨t362, A5, H⟩ := H
 go_upto_if 10 with (first | ((with_reducible refine gN 1 rfl ?_); refine pB 1 65 [.int .i64 a0_0, .int .i64 a0_1, .slice A0_2 l0_2.length c0_2, .slice A0_3 l0_3.length c0_3, .slice A0_4 l0_4.length c0_4] HM rfl ?_; clear HM; intro gb360 w2 HM) | ((with_reducible refine gN 2 rfl ?_); refine pB 2 65 [.int .i64 0, .int .i64 0, .slice none 0 0, .slice none 0 0, .slice none 0 0] HM rfl ?_; clear HM; intro gb361 w3 HM; obtain ⟨z4_0, z4_1, z4_2, z4_3, z4_4, Z4_0, Z4_1, Z4_2, Z4_3, Z4_4⟩ := bk5 (HM.bx 0 rfl)) | ((with_reducible refine gC 91 rfl ?_); refine pC (some 9) rfl #[.agg #[.int .i64 a0_0, .int .i64 a0_1, .slice A0_2 l0_2.length c0_2, .slice A0_3 l0_3.length c0_3, .slice A0_4 l0_4.length c0_4]] rfl Try.func91 (spec_ThreeOk.calls k a0_0 a0_1 _ _ l0_2 _ _ l0_3 _ _ l0_4 t362 _ (HM.came HR0_2.out) HC0_2.out (HM.came HR0_3.out) HC0_3.out (HM.came HR0_4.out) HC0_4.out A5.out) ?_; rintro e w6 ⟨rfl, hR⟩; refine ⟨_, rfl, ?_⟩; replace HM := HM.call hR; clear hR))
 replace HM := nzM HM
 replace H := IB H
 rcases H with ⟨c7, H⟩ | ⟨c7, H⟩
 ·subst c7
  have HC8 := Aside0.mk H
  clear H
  go_upto_region 3 with (fail)
  go_cut [23] (fun v23 wc => ∃ (kq : Nat) (x23_7 : Bool), v23 = .bool x23_7 ∧ Aside0 (spec_Evict.j0 kq x23_7 a0_0 a0_1 l0_2 l0_3 l0_4 = some (r1, r2, r3, r4, r5, r6, r7)) ∧ Aside0 (kq ≤ k) ∧ Mem w [] wc [box 65 gb360 [.int .i64 a0_0, .int .i64 a0_1, .slice A0_2 l0_2.length c0_2, .slice A0_3 l0_3.length c0_3, .slice A0_4 l0_4.length c0_4], box 65 gb361 [.int .i64 0, .int .i64 0, .slice none 0 0, .slice none 0 0, .slice none 0 0]])
  case first =>
   have H := HC8.out
   clear HC8
   replace H := IT H; rcases H with ⟨c10, H⟩ | ⟨c10, H⟩
   ·have c10b0 : decide (a0_1 ≤ (l0_2.length : Int)) = true := decide_eq_true c10
    clear c10
    have H' := Aside0.mk H
    clear H
    obtain ⟨z9_0, z9_1, z9_2, z9_3, z9_4, Z9_0, Z9_1, Z9_2, Z9_3, Z9_4⟩ := bk5 (HM.bx 0 rfl)
    go_wp2
    go_meet
    case rel => exact ⟨_, (true), RS, H', ⟨by first | omega | exact Nat.le_refl _⟩, (MD HM).pick [0, 1]⟩
   ·have c10b0 : decide (a0_1 ≤ (l0_2.length : Int)) = false := decide_eq_false c10
    clear c10
    have H' := Aside0.mk H
    clear H
    obtain ⟨z9_0, z9_1, z9_2, z9_3, z9_4, Z9_0, Z9_1, Z9_2, Z9_3, Z9_4⟩ := bk5 (HM.bx 0 rfl)
    go_wp2
    go_meet
    case rel => exact ⟨_, (((l0_3.length : Int) == 0)), RS, H', ⟨by first | omega | exact Nat.le_refl _⟩, (MD HM).pick [0, 1]⟩
  case rest =>
   clear HC8 HM
   obtain ⟨kq, x23_7, rfl, HA, HJ7, HM⟩ := hcut
   cases kq with
   | zero => exact absurd HA.out (by simp [spec_Evict.j0])
   | succ kj7 =>
    have H := HA.out
    clear HA
    simp only [spec_Evict.j0] at H
    go_upto_if 23 with (fail)
    replace H := IB H
    rcases H with ⟨c11, H⟩ | ⟨c11, H⟩
    ·subst c11
     replace H := BN H; obtain ⟨⟨t363, t364, t365, t368, t371, t374, t375⟩, A13, H⟩ := H
     obtain ⟨z12_0, z12_1, z12_2, z12_3, z12_4, Z12_0, Z12_1, Z12_2, Z12_3, Z12_4⟩ := bk5 (HM.bx 0 rfl)
     go_upto_if 30 with (first | ((with_reducible refine gC 123 rfl ?_); refine pC (some 26) rfl #[.agg #[.int .i64 a0_0, .int .i64 a0_1, .slice A0_2 l0_2.length c0_2, .slice A0_3 l0_3.length c0_3, .slice A0_4 l0_4.length c0_4]] rfl Try.func123 (spec_EvictSmall.calls kj7 a0_0 a0_1 _ _ l0_2 _ _ l0_3 _ _ l0_4 t363 t364 t365 t368 t371 t374 t375 _ (HM.came HR0_2.out) HC0_2.out (HM.came HR0_3.out) HC0_3.out (HM.came HR0_4.out) HC0_4.out A13.out) ?_; rintro e w14 ⟨v366, v369, v372, rfl, hR⟩; refine ⟨_, rfl, ?_⟩; replace HM := HM.call hR; clear hR) | ((with_reducible refine gN 5 rfl ?_); refine pB 5 65 [.int .i64 0, .int .i64 0, .slice none 0 0, .slice none 0 0, .slice none 0 0] HM rfl ?_; clear HM; intro gb376 w15 HM; obtain ⟨Xo16, ko16, eo16⟩ := HM.rdR 2 rfl; subst eo16; obtain ⟨Xo17, ko17, eo17⟩ := HM.rdR 3 rfl; subst eo17; obtain ⟨Xo18, ko18, eo18⟩ := HM.rd 4 rfl; subst eo18) | ((with_reducible refine gS 5 rfl ?_); refine pS 5 5 0 [.int .i64 t363, .int .i64 t364, .slice Xo16 t365.length ko16, .slice Xo17 t368.length ko17, .slice Xo18 t371.length ko18] HM rfl rfl ?_; clear HM; intro w19 HM))
     replace HM := nzM HM
     replace H := IB H
     rcases H with ⟨c20, H⟩ | ⟨c20, H⟩
     ·subst c20
      simp only [Option.some.injEq, Prod.mk.injEq] at H
      obtain ⟨rfl, rfl, rfl, rfl, rfl, rfl, rfl⟩ := H
      obtain ⟨z21_0, z21_1, z21_2, z21_3, z21_4, Z21_0, Z21_1, Z21_2, Z21_3, Z21_4⟩ := bk5 (HM.bx 5 rfl)
      go_wp2_with (first | ((with_reducible refine gS 2 rfl ?_); refine pS 1 2 0 [.int .i64 t363, .int .i64 t364, .slice Xo16 t365.length ko16, .slice Xo17 t368.length ko17, .slice Xo18 t371.length ko18] HM rfl rfl ?_; clear HM; intro w22 HM))
      refine bodyPost_ret (results_ctt rfl _ _ gb361 65 #[.int .i64 t363, .int .i64 t364, .slice Xo16 t365.length ko16, .slice Xo17 t368.length ko17, .slice Xo18 t371.length ko18] (0, 0) _ rfl (HM.bx 1 rfl) Try.underlying65 rfl (by kernel_rfl)) rfl ?_
      exact ⟨_, _, _, ER, (MD HM).pick [2, 3, 4]⟩
     ·subst c20
      replace H := BN H; obtain ⟨⟨t377, t378, t379, t382, t385, t388, t389⟩, A24, H⟩ := H
      simp only [Option.some.injEq, Prod.mk.injEq] at H
      obtain ⟨rfl, rfl, rfl, rfl, rfl, rfl, rfl⟩ := H
      obtain ⟨z23_0, z23_1, z23_2, z23_3, z23_4, Z23_0, Z23_1, Z23_2, Z23_3, Z23_4⟩ := bk5 (HM.bx 5 rfl)
      go_wp2_with (first | ((with_reducible refine gC 124 rfl ?_); refine pC (some 34) rfl #[.agg #[.int .i64 t363, .int .i64 t364, .slice Xo16 t365.length ko16, .slice Xo17 t368.length ko17, .slice Xo18 t371.length ko18]] rfl Try.func124 (spec_EvictMain.calls kj7 t363 t364 _ _ t365 _ _ t368 _ _ t371 t377 t378 t379 t382 t385 t388 t389 _ (HM.CR 2 rfl).2.2 (HM.CR 2 rfl).2.1 (HM.CR 3 rfl).2.2 (HM.CR 3 rfl).2.1 (HM.C 4 rfl).2.2 (HM.C 4 rfl).2.1 A24.out) ?_; rintro e w25 ⟨v380, v383, v386, rfl, hR⟩; refine ⟨_, rfl, ?_⟩; replace HM := HM.call hR; clear hR; obtain ⟨Xo26, ko26, eo26⟩ := HM.rdR 6 rfl; subst eo26; obtain ⟨Xo27, ko27, eo27⟩ := HM.rdR 7 rfl; subst eo27; obtain ⟨Xo28, ko28, eo28⟩ := HM.rdR 8 rfl; subst eo28) | ((with_reducible refine gS 2 rfl ?_); refine pS 1 2 0 [.int .i64 t377, .int .i64 t378, .slice Xo26 t379.length ko26, .slice Xo27 t382.length ko27, .slice Xo28 t385.length ko28] HM rfl rfl ?_; clear HM; intro w29 HM; replace HM := HM.toQ 8 rfl))
      refine bodyPost_ret (results_ctt rfl _ _ gb361 65 #[.int .i64 t377, .int .i64 t378, .slice Xo26 t379.length ko26, .slice Xo27 t382.length ko27, .slice Xo28 t385.length ko28] (0, 0) _ rfl (HM.bx 1 rfl) Try.underlying65 rfl (by kernel_rfl)) rfl ?_
      exact ⟨_, _, _, ER, (MD HM).pick [6, 7, 8]⟩
    ·subst c11
     replace H := BN H; obtain ⟨⟨t390, t391, t392, t395, t398, t401, t402⟩, A31, H⟩ := H
     simp only [Option.some.injEq, Prod.mk.injEq] at H
     obtain ⟨rfl, rfl, rfl, rfl, rfl, rfl, rfl⟩ := H
     obtain ⟨z30_0, z30_1, z30_2, z30_3, z30_4, Z30_0, Z30_1, Z30_2, Z30_3, Z30_4⟩ := bk5 (HM.bx 0 rfl)
     go_wp2_with (first | ((with_reducible refine gC 124 rfl ?_); refine pC (some 39) rfl #[.agg #[.int .i64 a0_0, .int .i64 a0_1, .slice A0_2 l0_2.length c0_2, .slice A0_3 l0_3.length c0_3, .slice A0_4 l0_4.length c0_4]] rfl Try.func124 (spec_EvictMain.calls kj7 a0_0 a0_1 _ _ l0_2 _ _ l0_3 _ _ l0_4 t390 t391 t392 t395 t398 t401 t402 _ (HM.came HR0_2.out) HC0_2.out (HM.came HR0_3.out) HC0_3.out (HM.came HR0_4.out) HC0_4.out A31.out) ?_; rintro e w32 ⟨v393, v396, v399, rfl, hR⟩; refine ⟨_, rfl, ?_⟩; replace HM := HM.call hR; clear hR; obtain ⟨Xo33, ko33, eo33⟩ := HM.rdR 2 rfl; subst eo33; obtain ⟨Xo34, ko34, eo34⟩ := HM.rdR 3 rfl; subst eo34; obtain ⟨Xo35, ko35, eo35⟩ := HM.rdR 4 rfl; subst eo35) | ((with_reducible refine gS 2 rfl ?_); refine pS 1 2 0 [.int .i64 t390, .int .i64 t391, .slice Xo33 t392.length ko33, .slice Xo34 t395.length ko34, .slice Xo35 t398.length ko35] HM rfl rfl ?_; clear HM; intro w36 HM; replace HM := HM.toQ 4 rfl))
     refine bodyPost_ret (results_ctt rfl _ _ gb361 65 #[.int .i64 t390, .int .i64 t391, .slice Xo33 t392.length ko33, .slice Xo34 t395.length ko34, .slice Xo35 t398.length ko35] (0, 0) _ rfl (HM.bx 1 rfl) Try.underlying65 rfl (by kernel_rfl)) rfl ?_
     exact ⟨_, _, _, ER, (MD HM).pick [2, 3, 4]⟩
 ·subst c7
  simp only [Option.some.injEq, Prod.mk.injEq] at H
  obtain ⟨rfl, rfl, rfl, rfl, rfl, rfl, rfl⟩ := H
  go_wp2_with (first | ((with_reducible refine gS 2 rfl ?_); refine pS 1 2 0 [.int .i64 0, .int .i64 0, .slice none 0 0, .slice none 0 0, .slice none 0 0] HM rfl rfl ?_; clear HM; intro w37 HM; replace HM := HM.nl k76 76; replace HM := HM.nl k76 76; replace HM := HM.nl (Kd.int .i64) 3; replace HM := HM.toQ 4 rfl))
  refine bodyPost_ret (results_ctt rfl _ _ gb361 65 #[.int .i64 0, .int .i64 0, .slice none 0 0, .slice none 0 0, .slice none 0 0] (0, 0) _ rfl (HM.bx 1 rfl) Try.underlying65 rfl (by kernel_rfl)) rfl ?_
  exact ⟨_, _, _, ER, (MD HM).pick [2, 3, 4]⟩
mutual
def spec_Put.j0 : Nat → ByteArray → ByteArray → Bool → Int → Int → List (S76) → List (S76) → List Int → Option (Int × Int × (List (S76)) × (List (S76)) × List Int × List ByteArray × Bool)
 | 0, _, _, _, _, _, _, _, _ => none
 | k + 1, x1, x2, x26, x407000, x407001, x407002, x407003, x407004 => if x26 = true then (some (0, 0, ([] : List (S76)), ([] : List (S76)), ([] : List Int), ([] : List ByteArray), false)) else ((spec_l10Copy.f x407000 x407001 x407002 x407003 x407004).bind fun bt410 => ((spec_l10Touch.f k bt410.1 bt410.2.1 bt410.2.2.1 bt410.2.2.2.1 bt410.2.2.2.2 x1 true x2).bind fun bt421 => (if bt421.2.2.2.2.2.2 = true then (some (bt421.1, bt421.2.1, bt421.2.2.1, bt421.2.2.2.1, bt421.2.2.2.2.1, ([] : List ByteArray), true)) else (spec_Put.l0 k x1 x2 (([] : List ByteArray)) bt421.1 bt421.2.1 bt421.2.2.1 bt421.2.2.2.1 bt421.2.2.2.2.1))))
def spec_Put.l0 : Nat → ByteArray → ByteArray → List ByteArray → Int → Int → List (S76) → List (S76) → List Int → Option (Int × Int × (List (S76)) × (List (S76)) × List Int × List ByteArray × Bool)
 | 0, _, _, _, _, _, _, _, _ => none
 | k + 1, x1, x2, x12, x435000, x435001, x435002, x435003, x435004 => if (wrap64 ((x435002.length : Int) + (x435003.length : Int))) ≥ x435000 then ((spec_Evict.f k x435000 x435001 x435002 x435003 x435004).bind fun bt438 => (if x12.length < 8796093022208 then (spec_Put.l0 k x1 x2 (x12 ++ [bt438.2.2.2.2.2.1]) bt438.1 bt438.2.1 bt438.2.2.1 bt438.2.2.2.1 bt438.2.2.2.2.1) else (none))) else ((spec_Hash.f k x1).bind fun t456 => ((spec_l03Has.f k x435004 t456).bind fun t457 => (if t457 = true then ((spec_Hash.f k x1).bind fun t458 => ((spec_l08But.f k x435004 t458).bind fun t459 => (if x435003.length < 3518437208883 then (some (x435000, x435001, x435002, (x435003 ++ [(⟨x1, x2, 0⟩ : S76)]), t459, x12, true)) else (none)))) else (if x435002.length < 3518437208883 then (some (x435000, x435001, (x435002 ++ [(⟨x1, x2, 0⟩ : S76)]), x435003, x435004, x12, true)) else (none)))))
end
def spec_Put.f (k : Nat) (a0_0 : Int) (a0_1 : Int) (l0_2 : List (S76)) (l0_3 : List (S76)) (l0_4 : List Int) (a1 : ByteArray) (a2 : ByteArray) : Option (Int × Int × (List (S76)) × (List (S76)) × List Int × List ByteArray × Bool) := (spec_ThreeOk.f k a0_0 a0_1 l0_2 l0_3 l0_4).bind fun t408 => (if t408 = true then ((spec_ItemOk.f k a1 a2 0).bind fun t409 => (spec_Put.j0 k a1 a2 (!t409) a0_0 a0_1 l0_2 l0_3 l0_4)) else (spec_Put.j0 k a1 a2 true a0_0 a0_1 l0_2 l0_3 l0_4))
def spec_Put.T12 : Bool × List (List Nat × List Nat) := (true, [([], []), ([0], [0]), ([], []), ([2], [2]), ([1, 3, 3], [1, 3])])
def spec_Put.B12 : List Nat := [0, 1, 0, 4, 15]
theorem spec_Put.tab12 : rtab .any (opsOf Try.f95 12) = spec_Put.T12 := by kernel_rfl
theorem spec_Put.bits12 : waitsOk spec_Put.T12.2 spec_Put.B12 = true := by kernel_rfl
def spec_Put.T13 : Bool × List (List Nat × List Nat) := (true, [([], []), ([0], [0]), ([], []), ([2], [2]), ([1, 3, 3], [1, 3]), ([0, 1, 2, 3, 4], []), ([5, 4, 4, 0, 1, 2, 3, 4], [4, 5])])
def spec_Put.B13 : List Nat := [0, 1, 0, 4, 15, 31, 63]
theorem spec_Put.tab13 : rtab .any (opsOf Try.f95 13) = spec_Put.T13 := by kernel_rfl
theorem spec_Put.bits13 : waitsOk spec_Put.T13.2 spec_Put.B13 = true := by kernel_rfl
set_option maxHeartbeats 8000000 in
set_option maxRecDepth 100000 in
theorem spec_Put.calls (k : Nat) (a0_0 : Int) (a0_1 : Int) (A0_2 : Option Addr) (c0_2 : Nat) (l0_2 : List (S76)) (A0_3 : Option Addr) (c0_3 : Nat) (l0_3 : List (S76)) (A0_4 : Option Addr) (c0_4 : Nat) (l0_4 : List Int) (a1 : ByteArray) (a2 : ByteArray) (r1 : Int) (r2 : Int) (r3 : List (S76)) (r4 : List (S76)) (r5 : List Int) (r6 : List ByteArray) (r7 : Bool) (w : World) (hr0_2 : Kd.C k76 w A0_2 l0_2.length l0_2) (hc0_2 : l0_2.length ≤ c0_2) (hr0_3 : Kd.C k76 w A0_3 l0_3.length l0_3) (hc0_3 : l0_3.length ≤ c0_3) (hr0_4 : Kd.C (Kd.int .i64) w A0_4 l0_4.length l0_4) (hc0_4 : l0_4.length ≤ c0_4) (h : spec_Put.f k a0_0 a0_1 l0_2 l0_3 l0_4 a1 a2 = some (r1, r2, r3, r4, r5, r6, r7)) :
  Calls Try.prog 95 #[.agg #[.int .i64 a0_0, .int .i64 a0_1, .slice A0_2 l0_2.length c0_2, .slice A0_3 l0_3.length c0_3, .slice A0_4 l0_4.length c0_4], .string a1, .string a2] w fun e w' => ∃ v2_ v3_ v4_ v5_ : Value, e = .returned (.tuple #[.agg #[.int .i64 r1, .int .i64 r2, v2_, v3_, v4_], v5_, .bool r7]) ∧ Mem w [] w' [rowR k76 76 v2_ r3, rowR k76 76 v3_ r4, row (Kd.int .i64) 3 v4_ r5, rowR Kd.string 9 v5_ r6] := by
 have hu65 := Try.underlying65
 have hu76 := Try.underlying76
 have HR0_2 := Aside0.mk hr0_2
 have HC0_2 := Aside0.mk hc0_2
 clear hr0_2 hc0_2
 have HR0_3 := Aside0.mk hr0_3
 have HC0_3 := Aside0.mk hc0_3
 clear hr0_3 hc0_3
 have HR0_4 := Aside0.mk hr0_4
 have HC0_4 := Aside0.mk hc0_4
 clear hr0_4 hc0_4
 have HM := Mem.nil w
 have H := h
 clear h
 unfold spec_Put.f at H
 go_enter Try.func95, Try.ntmps95
 have HC6 := Aside0.mk H
 clear H
 go_upto_region 1 with (first | ((with_reducible refine gN 3 rfl ?_); refine pB 3 65 [.int .i64 a0_0, .int .i64 a0_1, .slice A0_2 l0_2.length c0_2, .slice A0_3 l0_3.length c0_3, .slice A0_4 l0_4.length c0_4] HM rfl ?_; clear HM; intro gb406 w4 HM) | ((with_reducible refine gN 6 rfl ?_); refine pB 6 65 [.int .i64 0, .int .i64 0, .slice none 0 0, .slice none 0 0, .slice none 0 0] HM rfl ?_; clear HM; intro gb407 w5 HM))
 replace HM := nzM HM
 try simp only [Act.put, List.setIfInBounds_toArray, List.set_cons_zero, List.set_cons_succ]
 go_cut [26] (fun v26 wc => ∃ (kq : Nat) (x26_5 : Bool), v26 = .bool x26_5 ∧ Aside0 (spec_Put.j0 kq a1 a2 x26_5 a0_0 a0_1 l0_2 l0_3 l0_4 = some (r1, r2, r3, r4, r5, r6, r7)) ∧ Aside0 (kq ≤ k) ∧ Mem w [] wc [box 65 gb406 [.int .i64 a0_0, .int .i64 a0_1, .slice A0_2 l0_2.length c0_2, .slice A0_3 l0_3.length c0_3, .slice A0_4 l0_4.length c0_4], box 65 gb407 [.int .i64 0, .int .i64 0, .slice none 0 0, .slice none 0 0, .slice none 0 0]])
 case first =>
  have H := HC6.out
  clear HC6
  replace H := BN H; obtain ⟨t408, A8, H⟩ := H
  replace H := IB H
  rcases H with ⟨c10, H⟩ | ⟨c10, H⟩
  ·subst c10
   replace H := BN H; obtain ⟨t409, A11, H⟩ := H
   have H' := Aside0.mk H
   clear H
   obtain ⟨z7_0, z7_1, z7_2, z7_3, z7_4, Z7_0, Z7_1, Z7_2, Z7_3, Z7_4⟩ := bk5 (HM.bx 0 rfl)
   go_wp2_with (first | ((with_reducible refine gC 91 rfl ?_); refine pC (some 18) rfl #[.agg #[.int .i64 a0_0, .int .i64 a0_1, .slice A0_2 l0_2.length c0_2, .slice A0_3 l0_3.length c0_3, .slice A0_4 l0_4.length c0_4]] rfl Try.func91 (spec_ThreeOk.calls k a0_0 a0_1 _ _ l0_2 _ _ l0_3 _ _ l0_4 true _ (HM.came HR0_2.out) HC0_2.out (HM.came HR0_3.out) HC0_3.out (HM.came HR0_4.out) HC0_4.out A8.out) ?_; rintro e w9 ⟨rfl, hR⟩; refine ⟨_, rfl, ?_⟩; replace HM := HM.call hR; clear hR) | ((with_reducible refine gC 72 rfl ?_); refine pC (some 24) rfl #[.agg #[.string a1, .string a2, .int .i64 0]] rfl Try.func72 (spec_ItemOk.calls k a1 a2 0 t409 _ A11.out) ?_; rintro e w12 ⟨rfl, hR⟩; refine ⟨_, rfl, ?_⟩; replace HM := HM.call hR; clear hR))
   go_meet
   case rel => exact ⟨_, (!t409), RS, H', ⟨by first | omega | exact Nat.le_refl _⟩, (MD HM).pick [0, 1]⟩
  ·subst c10
   have H' := Aside0.mk H
   clear H
   obtain ⟨z7_0, z7_1, z7_2, z7_3, z7_4, Z7_0, Z7_1, Z7_2, Z7_3, Z7_4⟩ := bk5 (HM.bx 0 rfl)
   go_wp2_with (first | ((with_reducible refine gC 91 rfl ?_); refine pC (some 18) rfl #[.agg #[.int .i64 a0_0, .int .i64 a0_1, .slice A0_2 l0_2.length c0_2, .slice A0_3 l0_3.length c0_3, .slice A0_4 l0_4.length c0_4]] rfl Try.func91 (spec_ThreeOk.calls k a0_0 a0_1 _ _ l0_2 _ _ l0_3 _ _ l0_4 false _ (HM.came HR0_2.out) HC0_2.out (HM.came HR0_3.out) HC0_3.out (HM.came HR0_4.out) HC0_4.out A8.out) ?_; rintro e w9 ⟨rfl, hR⟩; refine ⟨_, rfl, ?_⟩; replace HM := HM.call hR; clear hR))
   go_meet
   case rel => exact ⟨_, (true), RS, H', ⟨by first | omega | exact Nat.le_refl _⟩, (MD HM).pick [0, 1]⟩
 case rest =>
  clear HC6 HM
  obtain ⟨kq, x26_5, rfl, HA, HJ5, HM⟩ := hcut
  cases kq with
  | zero => exact absurd HA.out (by simp [spec_Put.j0])
  | succ kj5 =>
   have H := HA.out
   clear HA
   simp only [spec_Put.j0] at H
   go_upto_if 26 with (fail)
   replace H := IB H
   rcases H with ⟨c13, H⟩ | ⟨c13, H⟩
   ·subst c13
    simp only [Option.some.injEq, Prod.mk.injEq] at H
    obtain ⟨rfl, rfl, rfl, rfl, rfl, rfl, rfl⟩ := H
    go_wp2_with (first | ((with_reducible refine gS 6 rfl ?_); refine pS 1 6 0 [.int .i64 0, .int .i64 0, .slice none 0 0, .slice none 0 0, .slice none 0 0] HM rfl rfl ?_; clear HM; intro w14 HM; replace HM := HM.nl k76 76; replace HM := HM.nl k76 76; replace HM := HM.nl (Kd.int .i64) 3; replace HM := HM.toQ 4 rfl; replace HM := HM.nl Kd.string 9))
    refine bodyPost_ret (results_ctt rfl _ _ gb407 65 #[.int .i64 0, .int .i64 0, .slice none 0 0, .slice none 0 0, .slice none 0 0] (0, 0) _ rfl (HM.bx 1 rfl) Try.underlying65 rfl (by kernel_rfl)) rfl ?_
    exact ⟨_, _, _, _, ER, (MD HM).pick [2, 3, 4, 5]⟩
   ·subst c13
    replace H := BN H; obtain ⟨⟨t410, t411, t412, t415, t418⟩, A16, H⟩ := H
    replace H := BN H; obtain ⟨⟨t421, t422, t423, t426, t429, t432, t433⟩, A18, H⟩ := H
    obtain ⟨z15_0, z15_1, z15_2, z15_3, z15_4, Z15_0, Z15_1, Z15_2, Z15_3, Z15_4⟩ := bk5 (HM.bx 0 rfl)
    go_upto_if 37 with (first | ((with_reducible refine gC 109 rfl ?_); refine pC (some 30) rfl #[.agg #[.int .i64 a0_0, .int .i64 a0_1, .slice A0_2 l0_2.length c0_2, .slice A0_3 l0_3.length c0_3, .slice A0_4 l0_4.length c0_4]] rfl Try.func109 (spec_l10Copy.calls a0_0 a0_1 _ _ l0_2 _ _ l0_3 _ _ l0_4 t410 t411 t412 t415 t418 _ (HM.came HR0_2.out) HC0_2.out (HM.came HR0_3.out) HC0_3.out (HM.came HR0_4.out) HC0_4.out A16.out) ?_; rintro e w17 ⟨v413, v416, v419, rfl, hR⟩; refine ⟨_, rfl, ?_⟩; replace HM := HM.call hR; clear hR) | ((with_reducible refine gC 108 rfl ?_); refine pC (some 33) rfl #[.agg #[.int .i64 t410, .int .i64 t411, v413, v416, v419], .string a1, .bool true, .string a2] rfl Try.func108 (spec_l10Touch.calls kj5 t410 t411 v413 t412 v416 t415 v419 t418 a1 true a2 t421 t422 t423 t426 t429 t432 t433 _ _ _ (HM.focus [0, 1] [2, 3, 4]) A18.out) ?_; rintro e w19 ⟨v424, v427, v430, rfl, hR⟩; refine ⟨_, rfl, ?_⟩; replace HM := nzM hR.unfocus; clear hR) | ((with_reducible refine gN 9 rfl ?_); refine pB 9 65 [.int .i64 0, .int .i64 0, .slice none 0 0, .slice none 0 0, .slice none 0 0] HM rfl ?_; clear HM; intro gb434 w20 HM; obtain ⟨Xo21, ko21, eo21⟩ := HM.rdR 2 rfl; subst eo21; obtain ⟨Xo22, ko22, eo22⟩ := HM.rdR 3 rfl; subst eo22; obtain ⟨Xo23, ko23, eo23⟩ := HM.rdR 4 rfl; subst eo23) | ((with_reducible refine gS 9 rfl ?_); refine pS 5 9 0 [.int .i64 t421, .int .i64 t422, .slice Xo21 t423.length ko21, .slice Xo22 t426.length ko22, .slice Xo23 t429.length ko23] HM rfl rfl ?_; clear HM; intro w24 HM))
    replace HM := nzM HM
    replace H := IB H
    rcases H with ⟨c25, H⟩ | ⟨c25, H⟩
    ·subst c25
     simp only [Option.some.injEq, Prod.mk.injEq] at H
     obtain ⟨rfl, rfl, rfl, rfl, rfl, rfl, rfl⟩ := H
     obtain ⟨z26_0, z26_1, z26_2, z26_3, z26_4, Z26_0, Z26_1, Z26_2, Z26_3, Z26_4⟩ := bk5 (HM.bx 5 rfl)
     go_wp2_with (first | ((with_reducible refine gS 6 rfl ?_); refine pS 1 6 0 [.int .i64 t421, .int .i64 t422, .slice Xo21 t423.length ko21, .slice Xo22 t426.length ko22, .slice Xo23 t429.length ko23] HM rfl rfl ?_; clear HM; intro w27 HM; replace HM := HM.toQ 4 rfl; replace HM := HM.nl Kd.string 9))
     refine bodyPost_ret (results_ctt rfl _ _ gb407 65 #[.int .i64 t421, .int .i64 t422, .slice Xo21 t423.length ko21, .slice Xo22 t426.length ko22, .slice Xo23 t429.length ko23] (0, 0) _ rfl (HM.bx 1 rfl) Try.underlying65 rfl (by kernel_rfl)) rfl ?_
     exact ⟨_, _, _, _, ER, (MD HM).pick [2, 3, 4, 6]⟩
    ·subst c25
     have H' := Aside0.mk H
     clear H
     go_wp2_with (first | ((with_reducible refine gN 39 rfl ?_); refine pL 39 Kd.string 9 ([] : List ByteArray) [] (Reps.none _ _) HM rfl ?_; clear HM; intro v436 w28 HM; replace HM := HM.toQ 4 rfl))
     go_loopg [12] kj5 (fun kq v12 w' => ∃ (x12_2 : List ByteArray) (x435000_2 : Int) (x435001_2 : Int) (x435002_2 : List (S76)) (x435003_2 : List (S76)) (x435004_2 : List Int) (u435002 : Value) (u435003 : Value) (u435004 : Value), Aside0 (spec_Put.l0 kq a1 a2 x12_2 x435000_2 x435001_2 x435002_2 x435003_2 x435004_2 = some (r1, r2, r3, r4, r5, r6, r7)) ∧ Aside0 (kq ≤ kj5) ∧ Mem w [] w' [rowR Kd.string 9 v12 x12_2, rowR k76 76 u435002 x435002_2, rowR k76 76 u435003 x435003_2, row (Kd.int .i64) 3 u435004 x435004_2, box 65 gb406 [.int .i64 a0_0, .int .i64 a0_1, .slice A0_2 l0_2.length c0_2, .slice A0_3 l0_3.length c0_3, .slice A0_4 l0_4.length c0_4], box 65 gb407 [.int .i64 0, .int .i64 0, .slice none 0 0, .slice none 0 0, .slice none 0 0], box 65 gb434 [.int .i64 x435000_2, .int .i64 x435001_2, u435002, u435003, u435004]])
     case atStart => exact ⟨((([] : List ByteArray))), (t421), (t422), (t423), (t426), (t429), (.slice Xo21 t423.length ko21), (.slice Xo22 t426.length ko22), (.slice Xo23 t429.length ko23), H', ⟨Nat.le_refl _⟩, (MD HM).pick [6, 2, 3, 4, 0, 1, 5]⟩
     case round =>
      clear H' HM
      obtain ⟨x12_2, x435000_2, x435001_2, x435002_2, x435003_2, x435004_2, u435002, u435003, u435004, HA, HK2, HM⟩ := hrel
      cases gk with
      | zero => exact absurd HA.out (by simp [spec_Put.l0])
      | succ k2 =>
       have H := HA.out
       clear HA
       simp only [spec_Put.l0] at H
       obtain ⟨z29_0, z29_1, z29_2, z29_3, z29_4, Z29_0, Z29_1, Z29_2, Z29_3, Z29_4⟩ := bk5 (HM.bx 6 rfl)
       obtain ⟨Xo30, ko30, eo30⟩ := HM.rdR 1 rfl
       subst eo30
       obtain ⟨Xo31, ko31, eo31⟩ := HM.rdR 2 rfl
       subst eo31
       go_upto_if 49 with (fail)
       replace H := IT H; rcases H with ⟨c32, H⟩ | ⟨c32, H⟩
       ·have c32b0 : decide (x435000_2 ≤ (wrap64 ((x435002_2.length : Int) + (x435003_2.length : Int)))) = true := decide_eq_true c32
        clear c32
        (first | rw [c32b0] | (simp only [i64_w, i32_w]; rw [c32b0]) | skip)
        replace H := BN H; obtain ⟨⟨t438, t439, t440, t443, t446, t449, t450⟩, A33, H⟩ := H
        replace H := GD H; obtain ⟨c43, H⟩ := H
        have LMc43 := Aside0.mk c43
        clear c43
        have H' := Aside0.mk H
        clear H
        obtain ⟨Xo35, ko35, eo35⟩ := HM.rd 3 rfl
        subst eo35
        go_wp2_with (first | ((with_reducible refine gC 110 rfl ?_); refine pC (some 52) rfl #[.agg #[.int .i64 x435000_2, .int .i64 x435001_2, .slice Xo30 x435002_2.length ko30, .slice Xo31 x435003_2.length ko31, .slice Xo35 x435004_2.length ko35]] rfl Try.func110 (spec_Evict.calls k2 x435000_2 x435001_2 _ _ x435002_2 _ _ x435003_2 _ _ x435004_2 t438 t439 t440 t443 t446 t449 t450 _ (HM.CR 1 rfl).2.2 (HM.CR 1 rfl).2.1 (HM.CR 2 rfl).2.2 (HM.CR 2 rfl).2.1 (HM.C 3 rfl).2.2 (HM.C 3 rfl).2.1 A33.out) ?_; rintro e w34 ⟨v441, v444, v447, rfl, hR⟩; refine ⟨_, rfl, ?_⟩; replace HM := HM.call hR; clear hR) | ((with_reducible refine gN 13 rfl ?_); refine pB 13 65 [.int .i64 0, .int .i64 0, .slice none 0 0, .slice none 0 0, .slice none 0 0] HM rfl ?_; clear HM; intro gb451 w36 HM; obtain ⟨Xo37, ko37, eo37⟩ := HM.rdR 7 rfl; subst eo37; obtain ⟨Xo38, ko38, eo38⟩ := HM.rdR 8 rfl; subst eo38; obtain ⟨Xo39, ko39, eo39⟩ := HM.rd 9 rfl; subst eo39) | ((with_reducible refine gS 13 rfl ?_); refine pS 10 13 0 [.int .i64 t438, .int .i64 t439, .slice Xo37 t440.length ko37, .slice Xo38 t443.length ko38, .slice Xo39 t446.length ko39] HM rfl rfl ?_; clear HM; intro w40 HM; obtain ⟨z41_0, z41_1, z41_2, z41_3, z41_4, Z41_0, Z41_1, Z41_2, Z41_3, Z41_4⟩ := bk5 (HM.bx 10 rfl)) | ((with_reducible refine gS 9 rfl ?_); refine pS 6 9 0 [.int .i64 t438, .int .i64 t439, .slice Xo37 t440.length ko37, .slice Xo38 t443.length ko38, .slice Xo39 t446.length ko39] HM rfl rfl ?_; clear HM; intro w42 HM) | ((with_reducible refine gN 59 rfl ?_); refine pL 59 Kd.string 9 [t449] [.string t449] (Reps.one (show Kd.M Kd.string _ _ _ t449 [.string t449] from rfl) (Reps.none _ _)) HM rfl ?_; clear HM; intro v45 w44 HM; obtain ⟨Xv45, kv45, ev45⟩ := HM.rdR 11 rfl; subst ev45) | ((with_reducible refine gate_builtin (b := .append) (xs := #[.tmp 57, .tmp 59]) rfl ?_); refine pA 0 (.tmp 57) (.tmp 59) 24 9 Kd.string u12 x12_2 [t449] Xv45 ([t449].length) kv45 HM rfl Try.underlying24 info9 rfl (HM.CR 11 rfl).2.2 (by have h_ := LMc43.out; simp only [List.length_singleton]; omega) ?_; clear HM; intro v453 w46 HM))
        go_roundg k2
        case measure => have := HJ5.out; have := HK2.out; omega
        case rel => exact ⟨((x12_2 ++ [t449])), (t438), (t439), (t440), (t443), (t446), (.slice Xo37 t440.length ko37), (.slice Xo38 t443.length ko38), (.slice Xo39 t446.length ko39), H', ⟨by have := HJ5.out; have := HK2.out; omega⟩, (MD HM).pick [0, 7, 8, 9, 4, 5, 6]⟩
       ·have c32b0 : decide (x435000_2 ≤ (wrap64 ((x435002_2.length : Int) + (x435003_2.length : Int)))) = false := decide_eq_false c32
        clear c32
        (first | rw [c32b0] | (simp only [i64_w, i32_w]; rw [c32b0]) | skip)
        try go_wp2_with (first | ((with_reducible refine gN 16 rfl ?_); refine pB 16 76 [.string (⟨#[]⟩ : ByteArray), .string (⟨#[]⟩ : ByteArray), .int .i64 0] HM rfl ?_; clear HM; intro gb455 w47 HM) | ((with_reducible refine gS 16 rfl ?_); refine pS 7 16 0 [.string a1, .string a2, .int .i64 0] HM rfl rfl ?_; clear HM; intro w48 HM))
        replace H := BN H; obtain ⟨t456, A49, H⟩ := H
        replace H := BN H; obtain ⟨t457, A50, H⟩ := H
        obtain ⟨Xo55, ko55, eo55⟩ := HM.rd 3 rfl
        subst eo55
        refine RGN 5 [0, 1, 2, 3, 4] (fun a0 b a w' => a = putSel a0 b [(0, 64, .pointer (some ⟨gb434, 4, none⟩)), (1, 65, .slice Xo55 x435004_2.length ko55), (2, 66, .string a1), (3, 67, .int .i64 t456), (4, 68, .bool t457)] ∧ Mem w [] w' [rowR Kd.string 9 u12 x12_2, rowR k76 76 (.slice Xo30 x435002_2.length ko30) x435002_2, rowR k76 76 (.slice Xo31 x435003_2.length ko31) x435003_2, row (Kd.int .i64) 3 (.slice Xo55 x435004_2.length ko55) x435004_2, box 65 gb406 [.int .i64 a0_0, .int .i64 a0_1, .slice A0_2 l0_2.length c0_2, .slice A0_3 l0_3.length c0_3, .slice A0_4 l0_4.length c0_4], box 65 gb407 [.int .i64 0, .int .i64 0, .slice none 0 0, .slice none 0 0, .slice none 0 0], box 65 gb434 [.int .i64 x435000_2, .int .i64 x435001_2, .slice Xo30 x435002_2.length ko30, .slice Xo31 x435003_2.length ko31, .slice Xo55 x435004_2.length ko55], box 76 gb455 [.string a1, .string a2, .int .i64 0]]) spec_Put.tab12 spec_Put.bits12 ?_ ?_ ?_
        ·exact ⟨PS0' rfl _, (HM.drew).pick [0, 1, 2, 3, 4, 5, 6, 7]⟩
        ·clear HM
         refine SY ?_ ?_
         ·intro b a w ha HM hb hon hoff K hK
          have e9 := PG ha 9
          exact VL (.pointer (some ⟨gb434, 4, none⟩)) (hK.out _ _ ⟨PUT ha 0 hb, HM⟩)
         refine SY ?_ ?_
         ·intro b a w ha HM hb hon hoff K hK
          obtain ⟨z56_0, z56_1, z56_2, z56_3, z56_4, Z56_0, Z56_1, Z56_2, Z56_3, Z56_4⟩ := bk5 (HM.bx 6 rfl)
          have e64 := PE ha 0 hon
          exact VL (.slice Xo55 x435004_2.length ko55) (hK.out _ _ ⟨PUT ha 1 hb, HM⟩)
         refine SY ?_ ?_
         ·intro b a w ha HM hb hon hoff K hK
          have e1 := PG ha 1
          exact VL (.string a1) (hK.out _ _ ⟨PUT ha 2 hb, HM⟩)
         refine SY ?_ ?_
         ·intro b a w ha HM hb hon hoff K hK
          have e66 := PE ha 2 hon
          refine ST (eC (some 67) rfl #[.string a1] rfl Try.func111 (spec_Hash.calls k2 a1 t456 _ A49.out) ?_ (hargs := by (simp only [List.map_toArray, List.map_cons, List.map_nil, evc, eval_of e66]) <;> rfl))
          rintro e w57 ⟨rfl, hd⟩
          refine ⟨_, rfl, ?_⟩
          replace HM := HM.drawn hd
          clear hd
          exact hK.out _ _ ⟨PUT ha 3 hb, (HM).pick [0, 1, 2, 3, 4, 5, 6, 7]⟩
         refine SY ?_ ?_
         ·intro b a w ha HM hb hon hoff K hK
          have e65 := PE ha 1 hon
          have e67 := PE ha 3 hon
          refine ST (eC (some 68) rfl #[.slice Xo55 x435004_2.length ko55, .int .i64 t456] rfl Try.func107 (spec_l03Has.calls k2 _ _ x435004_2 t456 t457 _ (HM.C 3 rfl).2.2 (HM.C 3 rfl).2.1 A50.out) ?_ (hargs := by (simp only [List.map_toArray, List.map_cons, List.map_nil, evc, eval_of e65, eval_of e67]) <;> rfl))
          rintro e w58 ⟨rfl, hd⟩
          refine ⟨_, rfl, ?_⟩
          replace HM := HM.drawn hd
          clear hd
          exact hK.out _ _ ⟨PUT ha 4 hb, (HM).pick [0, 1, 2, 3, 4, 5, 6, 7]⟩
         exact steps_nil
        rintro _ w59 ⟨rfl, HM⟩
        simp only [putSel, if_true, Act.put, List.setIfInBounds_toArray, List.set_cons_zero, List.set_cons_succ, gt_iff_lt, ge_iff_le]
        go_upto_if 68 with (fail)
        replace H := IB H
        rcases H with ⟨c60, H⟩ | ⟨c60, H⟩
        ·subst c60
         try go_wp2
         replace H := BN H; obtain ⟨t458, A61, H⟩ := H
         replace H := BN H; obtain ⟨t459, A62, H⟩ := H
         refine RGN 7 [0, 1, 2, 3, 4, 5, 6] (fun a0 b a w' => ∃ (v460 : Value), a = putSel a0 b [(0, 69, .pointer (some ⟨gb434, 4, none⟩)), (1, 70, .slice Xo55 x435004_2.length ko55), (2, 71, .string a1), (3, 72, .int .i64 t458), (4, 73, v460), (5, 74, .pointer (some ⟨gb434, 4, none⟩))] ∧ Mem w [] w' [rowR Kd.string 9 u12 x12_2, rowR k76 76 (.slice Xo30 x435002_2.length ko30) x435002_2, rowR k76 76 (.slice Xo31 x435003_2.length ko31) x435003_2, row (Kd.int .i64) 3 (.slice Xo55 x435004_2.length ko55) x435004_2, box 65 gb406 [.int .i64 a0_0, .int .i64 a0_1, .slice A0_2 l0_2.length c0_2, .slice A0_3 l0_3.length c0_3, .slice A0_4 l0_4.length c0_4], box 65 gb407 [.int .i64 0, .int .i64 0, .slice none 0 0, .slice none 0 0, .slice none 0 0], sel (b 6) (box 65 gb434 [.int .i64 x435000_2, .int .i64 x435001_2, .slice Xo30 x435002_2.length ko30, .slice Xo31 x435003_2.length ko31, v460]) (box 65 gb434 [.int .i64 x435000_2, .int .i64 x435001_2, .slice Xo30 x435002_2.length ko30, .slice Xo31 x435003_2.length ko31, .slice Xo55 x435004_2.length ko55]), box 76 gb455 [.string a1, .string a2, .int .i64 0], sel (b 4) (rowR (Kd.int .i64) 3 v460 t459) (emp)]) spec_Put.tab13 spec_Put.bits13 ?_ ?_ ?_
         ·exact ⟨.bool false, PS0' rfl _, (HM.drew.ems 1).pick [0, 1, 2, 3, 4, 5, 6, 7, 8]⟩
         ·clear HM
          refine steps_cons ?_ ?_
          ·rintro b a w ⟨v460, ha, HM⟩ hb hon hoff
           refine ⟨_, rfl, fun K hK => ?_⟩
           replace ha := Aside0.mk ha
           have e9 := PG ha 9
           exact VL (.pointer (some ⟨gb434, 4, none⟩)) (hK.out _ _ ⟨v460, PUT ha 0 hb, HM⟩)
          refine steps_cons ?_ ?_
          ·rintro b a w ⟨v460, ha, HM⟩ hb hon hoff
           refine ⟨_, rfl, fun K hK => ?_⟩
           replace ha := Aside0.mk ha
           have HZ := HM
           replace HM := HM.sF 6 rfl (hoff 6 (by kernel_rfl))
           obtain ⟨z68_0, z68_1, z68_2, z68_3, z68_4, Z68_0, Z68_1, Z68_2, Z68_3, Z68_4⟩ := bk5 (HM.bx 6 rfl)
           have e69 := PE ha 0 hon
           exact VL (.slice Xo55 x435004_2.length ko55) (hK.out _ _ ⟨v460, PUT ha 1 hb, HZ⟩)
          refine steps_cons ?_ ?_
          ·rintro b a w ⟨v460, ha, HM⟩ hb hon hoff
           refine ⟨_, rfl, fun K hK => ?_⟩
           replace ha := Aside0.mk ha
           have e1 := PG ha 1
           exact VL (.string a1) (hK.out _ _ ⟨v460, PUT ha 2 hb, HM⟩)
          refine steps_cons ?_ ?_
          ·rintro b a w ⟨v460, ha, HM⟩ hb hon hoff
           refine ⟨_, rfl, fun K hK => ?_⟩
           replace ha := Aside0.mk ha
           have e71 := PE ha 2 hon
           refine ST (eC (some 72) rfl #[.string a1] rfl Try.func111 (spec_Hash.calls k2 a1 t458 _ A61.out) ?_ (hargs := by (simp only [List.map_toArray, List.map_cons, List.map_nil, evc, eval_of e71]) <;> rfl))
           rintro e w69 ⟨rfl, hd⟩
           refine ⟨_, rfl, ?_⟩
           replace HM := HM.drawn hd
           clear hd
           exact hK.out _ _ ⟨v460, PUT ha 3 hb, (HM).pick [0, 1, 2, 3, 4, 5, 6, 7, 8]⟩
          refine steps_cons ?_ ?_
          ·rintro b a w ⟨v460, ha, HM⟩ hb hon hoff
           refine ⟨_, rfl, fun K hK => ?_⟩
           replace ha := Aside0.mk ha
           have e70 := PE ha 1 hon
           have e72 := PE ha 3 hon
           refine ST (eC (some 73) rfl #[.slice Xo55 x435004_2.length ko55, .int .i64 t458] rfl Try.func112 (spec_l08But.calls k2 _ _ x435004_2 t458 t459 _ (HM.C 3 rfl).2.2 (HM.C 3 rfl).2.1 A62.out) ?_ (hargs := by (simp only [List.map_toArray, List.map_cons, List.map_nil, evc, eval_of e70, eval_of e72]) <;> rfl))
           rintro e w70 ⟨v460, rfl, hR⟩
           refine ⟨_, rfl, ?_⟩
           replace HM := HM.call hR
           clear hR
           exact hK.out _ _ ⟨v460, PUT ha 4 hb, ((HM.sF 6 rfl (hoff 6 (by kernel_rfl))).iF 6 rfl (hoff 6 (by kernel_rfl))).pick [0, 1, 2, 3, 4, 5, 6, 7, 9]⟩
          refine steps_cons ?_ ?_
          ·rintro b a w ⟨v460, ha, HM⟩ hb hon hoff
           refine ⟨_, rfl, fun K hK => ?_⟩
           replace ha := Aside0.mk ha
           have e9 := PG ha 9
           exact VL (.pointer (some ⟨gb434, 4, none⟩)) (hK.out _ _ ⟨v460, PUT ha 5 hb, HM⟩)
          refine steps_cons ?_ ?_
          ·rintro b a w ⟨v460, ha, HM⟩ hb hon hoff
           refine ⟨_, rfl, fun K hK => ?_⟩
           replace ha := Aside0.mk ha
           replace HM := HM.sF 6 rfl hb
           replace HM := HM.sT 8 rfl (hon 4 (by kernel_rfl))
           obtain ⟨Xo71, ko71, eo71⟩ := HM.rdR 8 rfl
           subst eo71
           have e74 := PE ha 5 hon
           have e73 := PE ha 4 hon
           refine ST (eS 6 74 4 [.slice Xo71 t459.length ko71] HM rfl rfl ?_ (hp := (eval_of e74)) (hx := (by rw [eval_of e73]; rfl)))
           clear HM
           intro w72 HM
           exact hK.out _ _ ⟨.slice Xo71 t459.length ko71, PUS ha, (HM.iT 8 rfl (hon 4 (by kernel_rfl))).pick [0, 1, 2, 3, 4, 5, 6, 7, 8]⟩
          exact steps_nil
         rintro _ w73 ⟨v460, rfl, HM⟩
         replace HM := HM.sT 6 rfl rfl
         replace HM := HM.sT 8 rfl rfl
         simp only [putSel, if_true, Act.put, List.setIfInBounds_toArray, List.set_cons_zero, List.set_cons_succ, gt_iff_lt, ge_iff_le]
         replace H := GD H; obtain ⟨c76, H⟩ := H
         have LMc76 := Aside0.mk c76
         clear c76
         simp only [Option.some.injEq, Prod.mk.injEq] at H
         obtain ⟨rfl, rfl, rfl, rfl, rfl, rfl, rfl⟩ := H
         obtain ⟨z74_0, z74_1, z74_2, z74_3, z74_4, Z74_0, Z74_1, Z74_2, Z74_3, Z74_4⟩ := bk5 (HM.bx 6 rfl)
         obtain ⟨z75_0, z75_1, z75_2, Z75_0, Z75_1, Z75_2⟩ := bk3 (HM.bx 7 rfl)
         go_wp2_with (first | ((with_reducible refine gN 78 rfl ?_); refine pL 78 k76 76 [(⟨a1, a2, 0⟩ : S76)] [.string a1, .string a2, .int .i64 0] (Reps.c3 (show Kd.M k76 _ _ _ (⟨a1, a2, 0⟩ : S76) [.string a1, .string a2, .int .i64 0] from (k76_mkM _ _ _ (⟨a1, a2, 0⟩ : S76))) (Reps.none _ _)) HM rfl ?_; clear HM; intro v78 w77 HM; obtain ⟨Xv78, kv78, ev78⟩ := HM.rdR 9 rfl; subst ev78) | ((with_reducible refine gate_builtin (b := .append) (xs := #[.tmp 76, .tmp 78]) rfl ?_); refine pA 2 (.tmp 76) (.tmp 78) 44 76 k76 (.slice Xo31 x435003_2.length ko31) x435003_2 [(⟨a1, a2, 0⟩ : S76)] Xv78 ([(⟨a1, a2, 0⟩ : S76)].length) kv78 HM rfl Try.underlying44 info76 rfl (HM.CR 9 rfl).2.2 (by have h_ := LMc76.out; simp only [List.length_singleton]; omega) ?_; clear HM; intro v463 w79 HM; obtain ⟨Xo80, ko80, eo80⟩ := HM.rdR 2 rfl; subst eo80) | ((with_reducible refine gS 80 rfl ?_); refine pS 6 80 3 [.slice Xo80 (x435003_2 ++ [(⟨a1, a2, 0⟩ : S76)]).length ko80] HM rfl rfl ?_; clear HM; intro w81 HM; obtain ⟨z82_0, z82_1, z82_2, z82_3, z82_4, Z82_0, Z82_1, Z82_2, Z82_3, Z82_4⟩ := bk5 (HM.bx 6 rfl); obtain ⟨Xo83, ko83, eo83⟩ := HM.rdR 8 rfl; subst eo83) | ((with_reducible refine gS 6 rfl ?_); refine pS 5 6 0 [.int .i64 x435000_2, .int .i64 x435001_2, .slice Xo30 x435002_2.length ko30, .slice Xo80 (x435003_2 ++ [(⟨a1, a2, 0⟩ : S76)]).length ko80, .slice Xo83 t459.length ko83] HM rfl rfl ?_; clear HM; intro w84 HM; replace HM := HM.toQ 8 rfl))
         refine bodyPost_ret (results_ctt rfl _ _ gb407 65 #[.int .i64 x435000_2, .int .i64 x435001_2, .slice Xo30 x435002_2.length ko30, .slice Xo80 (x435003_2 ++ [(⟨a1, a2, 0⟩ : S76)]).length ko80, .slice Xo83 t459.length ko83] (0, 0) _ rfl (HM.bx 5 rfl) Try.underlying65 rfl (by kernel_rfl)) rfl ?_
         exact ⟨_, _, _, _, ER, (MD HM).pick [1, 2, 8, 0]⟩
        ·subst c60
         replace H := GD H; obtain ⟨c87, H⟩ := H
         have LMc87 := Aside0.mk c87
         clear c87
         simp only [Option.some.injEq, Prod.mk.injEq] at H
         obtain ⟨rfl, rfl, rfl, rfl, rfl, rfl, rfl⟩ := H
         obtain ⟨z85_0, z85_1, z85_2, z85_3, z85_4, Z85_0, Z85_1, Z85_2, Z85_3, Z85_4⟩ := bk5 (HM.bx 6 rfl)
         obtain ⟨z86_0, z86_1, z86_2, Z86_0, Z86_1, Z86_2⟩ := bk3 (HM.bx 7 rfl)
         go_wp2_with (first | ((with_reducible refine gN 84 rfl ?_); refine pL 84 k76 76 [(⟨a1, a2, 0⟩ : S76)] [.string a1, .string a2, .int .i64 0] (Reps.c3 (show Kd.M k76 _ _ _ (⟨a1, a2, 0⟩ : S76) [.string a1, .string a2, .int .i64 0] from (k76_mkM _ _ _ (⟨a1, a2, 0⟩ : S76))) (Reps.none _ _)) HM rfl ?_; clear HM; intro v89 w88 HM; obtain ⟨Xv89, kv89, ev89⟩ := HM.rdR 8 rfl; subst ev89) | ((with_reducible refine gate_builtin (b := .append) (xs := #[.tmp 82, .tmp 84]) rfl ?_); refine pA 1 (.tmp 82) (.tmp 84) 44 76 k76 (.slice Xo30 x435002_2.length ko30) x435002_2 [(⟨a1, a2, 0⟩ : S76)] Xv89 ([(⟨a1, a2, 0⟩ : S76)].length) kv89 HM rfl Try.underlying44 info76 rfl (HM.CR 8 rfl).2.2 (by have h_ := LMc87.out; simp only [List.length_singleton]; omega) ?_; clear HM; intro v466 w90 HM; obtain ⟨Xo91, ko91, eo91⟩ := HM.rdR 1 rfl; subst eo91) | ((with_reducible refine gS 86 rfl ?_); refine pS 6 86 2 [.slice Xo91 (x435002_2 ++ [(⟨a1, a2, 0⟩ : S76)]).length ko91] HM rfl rfl ?_; clear HM; intro w92 HM; obtain ⟨z93_0, z93_1, z93_2, z93_3, z93_4, Z93_0, Z93_1, Z93_2, Z93_3, Z93_4⟩ := bk5 (HM.bx 6 rfl)) | ((with_reducible refine gS 6 rfl ?_); refine pS 5 6 0 [.int .i64 x435000_2, .int .i64 x435001_2, .slice Xo91 (x435002_2 ++ [(⟨a1, a2, 0⟩ : S76)]).length ko91, .slice Xo31 x435003_2.length ko31, .slice Xo55 x435004_2.length ko55] HM rfl rfl ?_; clear HM; intro w94 HM))
         refine bodyPost_ret (results_ctt rfl _ _ gb407 65 #[.int .i64 x435000_2, .int .i64 x435001_2, .slice Xo91 (x435002_2 ++ [(⟨a1, a2, 0⟩ : S76)]).length ko91, .slice Xo31 x435003_2.length ko31, .slice Xo55 x435004_2.length ko55] (0, 0) _ rfl (HM.bx 5 rfl) Try.underlying65 rfl (by kernel_rfl)) rfl ?_
         exact ⟨_, _, _, _, ER, (MD HM).pick [1, 2, 3, 0]⟩
def spec_l11Copy.f (a0_0 : Int) (a0_1 : Int) (l0_2 : List (S76)) : Option (Int × Int × (List (S76))) := (some (([] : List (S76)) : List (S76))).bind fun y475 => (if y475.length + l0_2.length < 3518437208883 then (some (a0_0, a0_1, (y475 ++ l0_2))) else (none))
set_option maxHeartbeats 8000000 in
set_option maxRecDepth 100000 in
theorem spec_l11Copy.calls (a0_0 : Int) (a0_1 : Int) (A0_2 : Option Addr) (c0_2 : Nat) (l0_2 : List (S76)) (r1 : Int) (r2 : Int) (r3 : List (S76)) (w : World) (hr0_2 : Kd.C k76 w A0_2 l0_2.length l0_2) (hc0_2 : l0_2.length ≤ c0_2) (h : spec_l11Copy.f a0_0 a0_1 l0_2 = some (r1, r2, r3)) :
  Calls Try.prog 113 #[.agg #[.int .i64 a0_0, .int .i64 a0_1, .slice A0_2 l0_2.length c0_2]] w fun e w' => ∃ v2_ : Value, e = .returned (.agg #[.int .i64 r1, .int .i64 r2, v2_]) ∧ Mem w [] w' [rowR k76 76 v2_ r3] := by
 have hu46 := Try.underlying46
 have HR0_2 := Aside0.mk hr0_2
 have HC0_2 := Aside0.mk hc0_2
 clear hr0_2 hc0_2
 have HM := Mem.nil w
 have H := h
 clear h
 unfold spec_l11Copy.f at H
 go_enter Try.func113, Try.ntmps113
 replace H := BLt H; obtain ⟨y475, Ny475, H⟩ := H
 replace Ny475 := Aside0.mk Ny475
 replace H := GD H; obtain ⟨c6, H⟩ := H
 have LMc6 := Aside0.mk c6
 clear c6
 simp only [Option.some.injEq, Prod.mk.injEq] at H
 obtain ⟨rfl, rfl, rfl⟩ := H
 go_wp2_with (first | ((with_reducible refine gN 1 rfl ?_); refine pB 1 46 [.int .i64 a0_0, .int .i64 a0_1, .slice A0_2 l0_2.length c0_2] HM rfl ?_; clear HM; intro gb473 w2 HM) | ((with_reducible refine gN 2 rfl ?_); refine pB 2 46 [.int .i64 0, .int .i64 0, .slice none 0 0] HM rfl ?_; clear HM; intro gb474 w3 HM) | ((with_reducible refine gN 3 rfl ?_); refine pL 3 k76 76 ([] : List (S76)) [] (Reps.none _ _) HM rfl ?_; clear HM; intro v476 w4 HM; replace HM := HM.nm 2 rfl Ny475.out; obtain ⟨z5_0, z5_1, z5_2, Z5_0, Z5_1, Z5_2⟩ := bk3 (HM.bx 0 rfl)) | ((with_reducible refine gate_builtin (b := .append) (xs := #[.tmp 3, .tmp 5]) rfl ?_); refine pA 2 (.tmp 3) (.tmp 5) 44 76 k76 v476 y475 l0_2 A0_2 l0_2.length c0_2 HM rfl Try.underlying44 info76 rfl (HM.came HR0_2.out) (by have h_ := LMc6.out; omega) ?_; clear HM; intro v479 w7 HM; obtain ⟨Xo8, ko8, eo8⟩ := HM.rdR 2 rfl; subst eo8) | ((with_reducible refine gS 7 rfl ?_); refine pS 0 7 2 [.slice Xo8 (y475 ++ l0_2).length ko8] HM rfl rfl ?_; clear HM; intro w9 HM; obtain ⟨z10_0, z10_1, z10_2, Z10_0, Z10_1, Z10_2⟩ := bk3 (HM.bx 0 rfl)) | ((with_reducible refine gS 2 rfl ?_); refine pS 1 2 0 [.int .i64 a0_0, .int .i64 a0_1, .slice Xo8 (y475 ++ l0_2).length ko8] HM rfl rfl ?_; clear HM; intro w11 HM))
 refine bodyPost_ret (results_cell_row rfl _ _ gb474 46 #[.int .i64 a0_0, .int .i64 a0_1, .slice Xo8 (y475 ++ l0_2).length ko8] (0, 0) _ rfl (HM.bx 1 rfl) Try.underlying46 rfl (by kernel_rfl)) rfl ?_
 exact ⟨_, ER, (MD HM).pick [2]⟩
def spec_l10Without.l0 : Nat → ByteArray → List (S76) → List (S76) → Int → Int → Option ((List (S76)))
 | 0, _, _, _, _, _ => none
 | k + 1, x1, x5, x9, x10, x11 => if x11 < x10 then (if 0 ≤ x11 then (if x11 < (x9.length : Int) then (if ((rd_T76 x9 x11).f0).toList = x1.toList then (spec_l10Without.l0 k x1 x5 x9 x10 (wrap64 (x11 + 1))) else (if x5.length < 3518437208883 then (spec_l10Without.l0 k x1 (x5 ++ [(⟨(rd_T76 x9 x11).f0, (rd_T76 x9 x11).f1, (rd_T76 x9 x11).f2⟩ : S76)]) x9 x10 (wrap64 (x11 + 1))) else (none))) else (none)) else (none)) else (some x5)
def spec_l10Without.f (k : Nat) (l0 : List (S76)) (a1 : ByteArray) : Option ((List (S76))) := spec_l10Without.l0 k a1 (([] : List (S76))) l0 (l0.length : Int) 0
set_option maxHeartbeats 8000000 in
set_option maxRecDepth 100000 in
theorem spec_l10Without.calls (k : Nat) (A0 : Option Addr) (c0 : Nat) (l0 : List (S76)) (a1 : ByteArray) (r : List (S76)) (w : World) (hr0 : Kd.C k76 w A0 l0.length l0) (hc0 : l0.length ≤ c0) (h : spec_l10Without.f k l0 a1 = some r) :
  Calls Try.prog 125 #[.slice A0 l0.length c0, .string a1] w fun e w' => ∃ v0_ : Value, e = .returned (v0_) ∧ Mem w [] w' [rowR k76 76 v0_ r] := by
 have hu76 := Try.underlying76
 have HR0 := Aside0.mk hr0
 have HC0 := Aside0.mk hc0
 clear hr0 hc0
 have HM := Mem.nil w
 have H := h
 clear h
 unfold spec_l10Without.f at H
 go_enter Try.func125, Try.ntmps125
 have H' := Aside0.mk H
 clear H
 go_wp2_with (first | ((with_reducible refine gN 8 rfl ?_); refine pL 8 k76 76 ([] : List (S76)) [] (Reps.none _ _) HM rfl ?_; clear HM; intro v482 w3 HM))
 go_loopg [5, 11] k (fun kq v5 v11 w' => ∃ (x5_1 : List (S76)) (x11_1 : Int), v11 = .int .i64 x11_1 ∧ Aside0 (spec_l10Without.l0 kq a1 x5_1 l0 (l0.length : Int) x11_1 = some r) ∧ Aside0 (kq ≤ k) ∧ Mem w [] w' [rowR k76 76 v5 x5_1])
 case atStart => exact ⟨((([] : List (S76)))), (0), RS, H', ⟨Nat.le_refl _⟩, (MD HM).pick [0]⟩
 case round =>
  clear H' HM
  obtain ⟨x5_1, x11_1, rfl, HA, HK1, HM⟩ := hrel
  cases gk with
  | zero => exact absurd HA.out (by simp [spec_l10Without.l0])
  | succ k1 =>
   have H := HA.out
   clear HA
   simp only [spec_l10Without.l0] at H
   go_upto_if 12 with (fail)
   replace H := IT H; rcases H with ⟨c4, H⟩ | ⟨c4, H⟩
   ·have c4b0 : decide (x11_1 < (l0.length : Int)) = true := decide_eq_true c4
    clear c4
    (first | rw [c4b0] | (simp only [i64_w, i32_w]; rw [c4b0]) | skip)
    replace H := GD H; obtain ⟨c5, H⟩ := H
    have c5b0 : decide (0 ≤ x11_1) = true := decide_eq_true c5
    clear c5
    replace H := GD H; obtain ⟨c6, H⟩ := H
    have c6b0 : decide (x11_1 < (l0.length : Int)) = true := decide_eq_true c6
    clear c6
    have p484 : 0 ≤ (x11_1 : Int) := of_decide_eq_true AS
    have q484 : (x11_1 : Int) < (l0.length : Int) := of_decide_eq_true AS
    obtain ⟨ad484, e484, hx484_0, hx484_1, hx484_2⟩ := at_T76 (HM.came HR0.out) x11_1 p484 q484
    cases e484
    replace p484 := eq_true p484
    replace q484 := eq_true q484
    go_upto_if 18 with (first | ((with_reducible refine gN 7 rfl ?_); refine pB 7 76 [.string (⟨#[]⟩ : ByteArray), .string (⟨#[]⟩ : ByteArray), .int .i64 0] HM rfl ?_; clear HM; intro gb485 w7 HM) | ((with_reducible refine gS 7 rfl ?_); refine pS 1 7 0 [.string ((rd_T76 l0 x11_1).f0), .string ((rd_T76 l0 x11_1).f1), .int .i64 ((rd_T76 l0 x11_1).f2)] HM rfl rfl ?_; clear HM; intro w8 HM; obtain ⟨z9_0, z9_1, z9_2, Z9_0, Z9_1, Z9_2⟩ := bk3 (HM.bx 1 rfl)))
    replace HM := nzM HM
    replace H := IT H; rcases H with ⟨c10, H⟩ | ⟨c10, H⟩
    ·have c10b0 : (((rd_T76 l0 x11_1).f0).toList == a1.toList) = true := beq_iff_eq.mpr c10
     have c10b1 : (((rd_T76 l0 x11_1).f0).toList != a1.toList) = false := bne_eq_false_iff_eq.mpr c10
     clear c10
     (first | rw [c10b0] | (simp only [i64_w, i32_w]; rw [c10b0]) | skip)
     have H' := Aside0.mk H
     clear H
     go_wp2
     go_roundg k1
     case measure => have := HK1.out; omega
     case rel => exact ⟨(x5_1), (wrap64 (x11_1 + 1)), RS, H', ⟨by have := HK1.out; omega⟩, (MD HM).pick [0]⟩
    ·have c10b0 : (((rd_T76 l0 x11_1).f0).toList == a1.toList) = false := beq_eq_false_iff_ne.mpr c10
     have c10b1 : (((rd_T76 l0 x11_1).f0).toList != a1.toList) = true := bne_iff_ne.mpr c10
     (first | rw [c10b0] | (simp only [i64_w, i32_w]; rw [c10b0]) | skip)
     replace H := GD H; obtain ⟨c11, H⟩ := H
     have LMc11 := Aside0.mk c11
     clear c11
     have H' := Aside0.mk H
     clear H
     go_wp2_with (first | ((with_reducible refine gN 21 rfl ?_); refine pL 21 k76 76 [(⟨(rd_T76 l0 x11_1).f0, (rd_T76 l0 x11_1).f1, (rd_T76 l0 x11_1).f2⟩ : S76)] [.string ((rd_T76 l0 x11_1).f0), .string ((rd_T76 l0 x11_1).f1), .int .i64 ((rd_T76 l0 x11_1).f2)] (Reps.c3 (show Kd.M k76 _ _ _ (⟨(rd_T76 l0 x11_1).f0, (rd_T76 l0 x11_1).f1, (rd_T76 l0 x11_1).f2⟩ : S76) [.string ((rd_T76 l0 x11_1).f0), .string ((rd_T76 l0 x11_1).f1), .int .i64 ((rd_T76 l0 x11_1).f2)] from (k76_mkM _ _ _ (⟨(rd_T76 l0 x11_1).f0, (rd_T76 l0 x11_1).f1, (rd_T76 l0 x11_1).f2⟩ : S76))) (Reps.none _ _)) HM rfl ?_; clear HM; intro v13 w12 HM; obtain ⟨Xv13, kv13, ev13⟩ := HM.rdR 2 rfl; subst ev13) | ((with_reducible refine gate_builtin (b := .append) (xs := #[.tmp 19, .tmp 21]) rfl ?_); refine pA 0 (.tmp 19) (.tmp 21) 44 76 k76 u5 x5_1 [(⟨(rd_T76 l0 x11_1).f0, (rd_T76 l0 x11_1).f1, (rd_T76 l0 x11_1).f2⟩ : S76)] Xv13 ([(⟨(rd_T76 l0 x11_1).f0, (rd_T76 l0 x11_1).f1, (rd_T76 l0 x11_1).f2⟩ : S76)].length) kv13 HM rfl Try.underlying44 info76 rfl (HM.CR 2 rfl).2.2 (by have h_ := LMc11.out; simp only [List.length_singleton]; omega) ?_; clear HM; intro v487 w14 HM))
     go_roundg k1
     case measure => have := HK1.out; omega
     case rel => exact ⟨((x5_1 ++ [(⟨(rd_T76 l0 x11_1).f0, (rd_T76 l0 x11_1).f1, (rd_T76 l0 x11_1).f2⟩ : S76)])), (wrap64 (x11_1 + 1)), RS, H', ⟨by have := HK1.out; omega⟩, (MD HM).pick [0]⟩
   ·have c4b0 : decide (x11_1 < (l0.length : Int)) = false := decide_eq_false c4
    clear c4
    (first | rw [c4b0] | (simp only [i64_w, i32_w]; rw [c4b0]) | skip)
    obtain rfl := Option.some.inj H
    go_wp2
    go_ret
    exact ⟨_, ER, (MD HM).pick [0]⟩
def spec_l11Touch.f (k : Nat) (a0_0 : Int) (a0_1 : Int) (l0_2 : List (S76)) (a1 : Int) : Option (Int × Int × (List (S76))) := if 0 ≤ a1 then (if a1 < (l0_2.length : Int) then (if a0_0 = 2 then ((spec_l10Without.f k l0_2 ((rd_T76 l0_2 a1).f0)).bind fun t493 => (if t493.length < 3518437208883 then (some (a0_0, a0_1, (t493 ++ [(⟨(rd_T76 l0_2 a1).f0, (rd_T76 l0_2 a1).f1, (rd_T76 l0_2 a1).f2⟩ : S76)]))) else (none))) else (if a0_0 = 3 then (some (a0_0, a0_1, (l0_2.set (a1 : Int).toNat (⟨(rd_T76 l0_2 a1).f0, (rd_T76 l0_2 a1).f1, 1⟩ : S76)))) else (some (a0_0, a0_1, l0_2)))) else (none)) else (none)
def spec_l11Touch.T4 : Bool × List (List Nat × List Nat) := (true, [([], []), ([0], [0]), ([], []), ([2], [2]), ([1, 3], [1, 3]), ([], []), ([5], [5]), ([4, 6, 4], [4, 6]), ([0, 1, 2, 3, 4, 5, 6, 7], []), ([8, 7, 7, 0, 1, 2, 3, 4, 5, 6, 7], [7, 8])])
def spec_l11Touch.B4 : List Nat := [0, 1, 0, 4, 15, 0, 32, 127, 255, 511]
theorem spec_l11Touch.tab4 : rtab .any (opsOf Try.f114 4) = spec_l11Touch.T4 := by kernel_rfl
theorem spec_l11Touch.bits4 : waitsOk spec_l11Touch.T4.2 spec_l11Touch.B4 = true := by kernel_rfl
set_option maxHeartbeats 8000000 in
set_option maxRecDepth 100000 in
theorem spec_l11Touch.calls (k : Nat) (a0_0 : Int) (a0_1 : Int) (u9000_ : Value) (l0_2 : List (S76)) (a1 : Int) (r1 : Int) (r2 : Int) (r3 : List (S76)) (w0 w : World) (F : List SP)  (hM : Mem w0 F w [rowR k76 76 u9000_ l0_2]) (h : spec_l11Touch.f k a0_0 a0_1 l0_2 a1 = some (r1, r2, r3)) :
  Calls Try.prog 114 #[.agg #[.int .i64 a0_0, .int .i64 a0_1, u9000_], .int .i64 a1] w fun e w' => ∃ v2_ : Value, e = .returned (.agg #[.int .i64 r1, .int .i64 r2, v2_]) ∧ Mem w0 F w' [rowR k76 76 v2_ r3] := by
 have hu46 := Try.underlying46
 have hu76 := Try.underlying76
 have HM := hM
 clear hM
 have H := h
 clear h
 unfold spec_l11Touch.f at H
 go_enter Try.func114, Try.ntmps114
 replace H := GD H; obtain ⟨c7, H⟩ := H
 have c7b0 : decide (0 ≤ a1) = true := decide_eq_true c7
 clear c7
 replace H := GD H; obtain ⟨c8, H⟩ := H
 have c8b0 : decide (a1 < (l0_2.length : Int)) = true := decide_eq_true c8
 clear c8
 obtain ⟨Xo3, ko3, eo3⟩ := HM.rdR 0 rfl
 subst eo3
 go_upto_if 13 with (first | ((with_reducible refine gN 2 rfl ?_); refine pB 2 46 [.int .i64 a0_0, .int .i64 a0_1, .slice Xo3 l0_2.length ko3] HM rfl ?_; clear HM; intro gb489 w4 HM) | ((with_reducible refine gN 4 rfl ?_); refine pB 4 46 [.int .i64 0, .int .i64 0, .slice none 0 0] HM rfl ?_; clear HM; intro gb490 w5 HM; obtain ⟨z6_0, z6_1, z6_2, Z6_0, Z6_1, Z6_2⟩ := bk3 (HM.bx 1 rfl); have pz491 : 0 ≤ (a1 : Int) := of_decide_eq_true AS; have qz491 : (a1 : Int) < ((l0_2.length : Int) : Int) := of_decide_eq_true AS; obtain ⟨go491, ef491⟩ := HM.form 0 rfl (by have h_ := (HM.CR 0 rfl).1; omega); subst ef491; clear pz491 qz491; have p491 : 0 ≤ (a1 : Int) := of_decide_eq_true AS; have q491 : (a1 : Int) < (l0_2.length : Int) := of_decide_eq_true AS; obtain ⟨ad491, e491, hx491_0, hx491_1, hx491_2⟩ := at_T76 (HM.CR 0 rfl).2.2 a1 p491 q491; obtain rfl := Option.some.inj e491; (first | simp only [add_plain] at hx491_0 | simp only [add_at] at hx491_0 | simp only [Addr.add, Nat.zero_add] at hx491_0 | skip); (first | simp only [add_plain] at hx491_1 | simp only [add_at] at hx491_1 | simp only [Addr.add, Nat.zero_add] at hx491_1 | skip); (first | simp only [add_plain] at hx491_2 | simp only [add_at] at hx491_2 | simp only [Addr.add, Nat.zero_add] at hx491_2 | skip); replace p491 := eq_true p491; replace q491 := eq_true q491) | ((with_reducible refine gN 5 rfl ?_); refine pB 5 76 [.string (⟨#[]⟩ : ByteArray), .string (⟨#[]⟩ : ByteArray), .int .i64 0] HM rfl ?_; clear HM; intro gb492 w9 HM) | ((with_reducible refine gS 5 rfl ?_); refine pS 3 5 0 [.string ((rd_T76 l0_2 a1).f0), .string ((rd_T76 l0_2 a1).f1), .int .i64 ((rd_T76 l0_2 a1).f2)] HM rfl rfl ?_; clear HM; intro w10 HM; obtain ⟨z11_0, z11_1, z11_2, Z11_0, Z11_1, Z11_2⟩ := bk3 (HM.bx 1 rfl)))
 replace HM := nzM HM
 replace H := IT H; rcases H with ⟨c12, H⟩ | ⟨c12, H⟩
 ·have c12b0 : (a0_0 == 2) = true := beq_iff_eq.mpr c12
  have c12b1 : (a0_0 != 2) = false := bne_eq_false_iff_eq.mpr c12
  clear c12
  (first | rw [c12b0] | (simp only [i64_w, i32_w]; rw [c12b0]) | skip)
  try go_wp2
  replace H := BN H; obtain ⟨t493, A13, H⟩ := H
  replace H := GD H; obtain ⟨c14, H⟩ := H
  have LMc14 := Aside0.mk c14
  clear c14
  refine RGN 10 [0, 1, 2, 3, 4, 5, 6, 7, 8, 9] (fun a0 b a w' => ∃ (v494 : Value) (v20 : Value) (v497 : Value), a = putSel a0 b [(0, 15, .pointer (some ⟨gb489, 2, none⟩)), (1, 16, .slice (some ⟨go491, 0, none⟩) l0_2.length ko3), (2, 17, .pointer (some ⟨gb492, 0, none⟩)), (3, 18, .string ((rd_T76 l0_2 a1).f0)), (4, 19, v494), (5, 20, .agg #[.string ((rd_T76 l0_2 a1).f0), .string ((rd_T76 l0_2 a1).f1), .int .i64 ((rd_T76 l0_2 a1).f2)]), (6, 21, v20), (7, 22, v497), (8, 23, .pointer (some ⟨gb489, 2, none⟩))] ∧ Mem w0 F w' [rowR k76 76 (.slice (some ⟨go491, 0, none⟩) l0_2.length ko3) l0_2, sel (b 9) (box 46 gb489 [.int .i64 a0_0, .int .i64 a0_1, v497]) (box 46 gb489 [.int .i64 a0_0, .int .i64 a0_1, .slice (some ⟨go491, 0, none⟩) l0_2.length ko3]), box 46 gb490 [.int .i64 0, .int .i64 0, .slice none 0 0], box 76 gb492 [.string ((rd_T76 l0_2 a1).f0), .string ((rd_T76 l0_2 a1).f1), .int .i64 ((rd_T76 l0_2 a1).f2)], sel (b 7) (rowR k76 76 v497 (t493 ++ [(⟨(rd_T76 l0_2 a1).f0, (rd_T76 l0_2 a1).f1, (rd_T76 l0_2 a1).f2⟩ : S76)])) (sel (b 4) (rowR k76 76 v494 t493) (emp)), sel (b 6) (rowR k76 76 v20 [(⟨(rd_T76 l0_2 a1).f0, (rd_T76 l0_2 a1).f1, (rd_T76 l0_2 a1).f2⟩ : S76)]) (emp)]) spec_l11Touch.tab4 spec_l11Touch.bits4 ?_ ?_ ?_
  ·exact ⟨.bool false, .bool false, .bool false, PS0' rfl _, (HM.drew.ems 2).pick [0, 1, 2, 3, 4, 5]⟩
  ·clear HM
   refine steps_cons ?_ ?_
   ·rintro b a w ⟨v494, v20, v497, ha, HM⟩ hb hon hoff
    refine ⟨_, rfl, fun K hK => ?_⟩
    replace ha := Aside0.mk ha
    have e2 := PG ha 2
    exact VL (.pointer (some ⟨gb489, 2, none⟩)) (hK.out _ _ ⟨v494, v20, v497, PUT ha 0 hb, HM⟩)
   refine steps_cons ?_ ?_
   ·rintro b a w ⟨v494, v20, v497, ha, HM⟩ hb hon hoff
    refine ⟨_, rfl, fun K hK => ?_⟩
    replace ha := Aside0.mk ha
    have HZ := HM
    replace HM := HM.sF 1 rfl (hoff 9 (by kernel_rfl))
    obtain ⟨z25_0, z25_1, z25_2, Z25_0, Z25_1, Z25_2⟩ := bk3 (HM.bx 1 rfl)
    have e15 := PE ha 0 hon
    exact VL (.slice (some ⟨go491, 0, none⟩) l0_2.length ko3) (hK.out _ _ ⟨v494, v20, v497, PUT ha 1 hb, HZ⟩)
   refine steps_cons ?_ ?_
   ·rintro b a w ⟨v494, v20, v497, ha, HM⟩ hb hon hoff
    refine ⟨_, rfl, fun K hK => ?_⟩
    replace ha := Aside0.mk ha
    have e5 := PG ha 5
    exact VL (.pointer (some ⟨gb492, 0, none⟩)) (hK.out _ _ ⟨v494, v20, v497, PUT ha 2 hb, HM⟩)
   refine steps_cons ?_ ?_
   ·rintro b a w ⟨v494, v20, v497, ha, HM⟩ hb hon hoff
    refine ⟨_, rfl, fun K hK => ?_⟩
    replace ha := Aside0.mk ha
    obtain ⟨z26_0, z26_1, z26_2, Z26_0, Z26_1, Z26_2⟩ := bk3 (HM.bx 3 rfl)
    have e17 := PE ha 2 hon
    exact VL (.string ((rd_T76 l0_2 a1).f0)) (hK.out _ _ ⟨v494, v20, v497, PUT ha 3 hb, HM⟩)
   refine steps_cons ?_ ?_
   ·rintro b a w ⟨v494, v20, v497, ha, HM⟩ hb hon hoff
    refine ⟨_, rfl, fun K hK => ?_⟩
    replace ha := Aside0.mk ha
    have e16 := PE ha 1 hon
    have e18 := PE ha 3 hon
    refine ST (eC (some 19) rfl #[.slice (some ⟨go491, 0, none⟩) l0_2.length ko3, .string ((rd_T76 l0_2 a1).f0)] rfl Try.func125 (spec_l10Without.calls k _ _ l0_2 ((rd_T76 l0_2 a1).f0) t493 _ (HM.CR 0 rfl).2.2 (HM.CR 0 rfl).2.1 A13.out) ?_ (hargs := by (simp only [List.map_toArray, List.map_cons, List.map_nil, evc, eval_of e16, eval_of e18]) <;> rfl))
    rintro e w27 ⟨v494, rfl, hR⟩
    refine ⟨_, rfl, ?_⟩
    replace HM := HM.call hR
    clear hR
    exact hK.out _ _ ⟨v494, v20, v497, PUT ha 4 hb, (HM.iF 6 rfl (hoff 7 (by kernel_rfl))).pick [0, 1, 2, 3, 6, 5]⟩
   refine steps_cons ?_ ?_
   ·rintro b a w ⟨v494, v20, v497, ha, HM⟩ hb hon hoff
    refine ⟨_, rfl, fun K hK => ?_⟩
    replace ha := Aside0.mk ha
    obtain ⟨z28_0, z28_1, z28_2, Z28_0, Z28_1, Z28_2⟩ := bk3 (HM.bx 3 rfl)
    have e5 := PG ha 5
    exact VL (.agg #[.string ((rd_T76 l0_2 a1).f0), .string ((rd_T76 l0_2 a1).f1), .int .i64 ((rd_T76 l0_2 a1).f2)]) (hK.out _ _ ⟨v494, v20, v497, PUT ha 5 hb, HM⟩)
   refine steps_cons ?_ ?_
   ·rintro b a w ⟨v494, v20, v497, ha, HM⟩ hb hon hoff
    refine ⟨_, rfl, fun K hK => ?_⟩
    replace ha := Aside0.mk ha
    have e20 := PE ha 5 hon
    refine ST (eL 21 k76 76 [(⟨(rd_T76 l0_2 a1).f0, (rd_T76 l0_2 a1).f1, (rd_T76 l0_2 a1).f2⟩ : S76)] [.string ((rd_T76 l0_2 a1).f0), .string ((rd_T76 l0_2 a1).f1), .int .i64 ((rd_T76 l0_2 a1).f2)] (Reps.c3 (show Kd.M k76 _ _ _ (⟨(rd_T76 l0_2 a1).f0, (rd_T76 l0_2 a1).f1, (rd_T76 l0_2 a1).f2⟩ : S76) [.string ((rd_T76 l0_2 a1).f0), .string ((rd_T76 l0_2 a1).f1), .int .i64 ((rd_T76 l0_2 a1).f2)] from (k76_mkM _ _ _ (⟨(rd_T76 l0_2 a1).f0, (rd_T76 l0_2 a1).f1, (rd_T76 l0_2 a1).f2⟩ : S76))) (Reps.none _ _)) HM rfl ?_)
    clear HM
    intro v20 w29 HM
    exact hK.out _ _ ⟨v494, v20, v497, PUT ha 6 hb, (HM).pick [0, 1, 2, 3, 4, 6]⟩
   refine steps_cons ?_ ?_
   ·rintro b a w ⟨v494, v20, v497, ha, HM⟩ hb hon hoff
    refine ⟨_, rfl, fun K hK => ?_⟩
    replace ha := Aside0.mk ha
    replace HM := (HM.sF 4 rfl hb).sT 4 rfl (hon 4 (by kernel_rfl))
    replace HM := HM.sT 5 rfl (hon 6 (by kernel_rfl))
    obtain ⟨Xo30, ko30, eo30⟩ := HM.rdR 5 rfl
    subst eo30
    have e19 := PE ha 4 hon
    have e21 := PE ha 6 hon
    refine ST (eA 4 (.tmp 19) (.tmp 21) 44 76 k76 v494 t493 [(⟨(rd_T76 l0_2 a1).f0, (rd_T76 l0_2 a1).f1, (rd_T76 l0_2 a1).f2⟩ : S76)] Xo30 ([(⟨(rd_T76 l0_2 a1).f0, (rd_T76 l0_2 a1).f1, (rd_T76 l0_2 a1).f2⟩ : S76)].length) ko30 HM rfl Try.underlying44 info76 rfl (HM.CR 5 rfl).2.2 (by have h_ := LMc14.out; simp only [List.length_singleton]; omega) ?_ (ops := #[]) (hw := by rfl) (hs := (eval_of e19)) (hx := (eval_of e21)))
    clear HM
    intro v497 w31 HM
    exact hK.out _ _ ⟨v494, .slice Xo30 [(⟨(rd_T76 l0_2 a1).f0, (rd_T76 l0_2 a1).f1, (rd_T76 l0_2 a1).f2⟩ : S76)].length ko30, v497, PUT ha 7 hb, (((HM.sF 1 rfl (hoff 9 (by kernel_rfl))).iF 1 rfl (hoff 9 (by kernel_rfl))).iT 5 rfl (hon 6 (by kernel_rfl))).pick [0, 1, 2, 3, 4, 5]⟩
   refine steps_cons ?_ ?_
   ·rintro b a w ⟨v494, v20, v497, ha, HM⟩ hb hon hoff
    refine ⟨_, rfl, fun K hK => ?_⟩
    replace ha := Aside0.mk ha
    have e2 := PG ha 2
    exact VL (.pointer (some ⟨gb489, 2, none⟩)) (hK.out _ _ ⟨v494, v20, v497, PUT ha 8 hb, HM⟩)
   refine steps_cons ?_ ?_
   ·rintro b a w ⟨v494, v20, v497, ha, HM⟩ hb hon hoff
    refine ⟨_, rfl, fun K hK => ?_⟩
    replace ha := Aside0.mk ha
    replace HM := HM.sF 1 rfl hb
    replace HM := HM.sT 4 rfl (hon 7 (by kernel_rfl))
    obtain ⟨Xo32, ko32, eo32⟩ := HM.rdR 4 rfl
    subst eo32
    have e23 := PE ha 8 hon
    have e22 := PE ha 7 hon
    refine ST (eS 1 23 2 [.slice Xo32 (t493 ++ [(⟨(rd_T76 l0_2 a1).f0, (rd_T76 l0_2 a1).f1, (rd_T76 l0_2 a1).f2⟩ : S76)]).length ko32] HM rfl rfl ?_ (hp := (eval_of e23)) (hx := (by rw [eval_of e22]; rfl)))
    clear HM
    intro w33 HM
    exact hK.out _ _ ⟨v494, v20, .slice Xo32 (t493 ++ [(⟨(rd_T76 l0_2 a1).f0, (rd_T76 l0_2 a1).f1, (rd_T76 l0_2 a1).f2⟩ : S76)]).length ko32, PUS ha, (HM.iT 4 rfl (hon 7 (by kernel_rfl))).pick [0, 1, 2, 3, 4, 5]⟩
   exact steps_nil
  rintro _ w34 ⟨v494, v20, v497, rfl, HM⟩
  replace HM := HM.sT 1 rfl rfl
  replace HM := HM.sT 4 rfl rfl
  replace HM := HM.sT 5 rfl rfl
  simp only [putSel, if_true, Act.put, List.setIfInBounds_toArray, List.set_cons_zero, List.set_cons_succ, gt_iff_lt, ge_iff_le]
  simp only [Option.some.injEq, Prod.mk.injEq] at H
  obtain ⟨rfl, rfl, rfl⟩ := H
  obtain ⟨z35_0, z35_1, z35_2, Z35_0, Z35_1, Z35_2⟩ := bk3 (HM.bx 1 rfl)
  obtain ⟨Xo36, ko36, eo36⟩ := HM.rdR 4 rfl
  subst eo36
  go_wp2_with (first | ((with_reducible refine gS 4 rfl ?_); refine pS 2 4 0 [.int .i64 a0_0, .int .i64 a0_1, .slice Xo36 (t493 ++ [(⟨(rd_T76 l0_2 a1).f0, (rd_T76 l0_2 a1).f1, (rd_T76 l0_2 a1).f2⟩ : S76)]).length ko36] HM rfl rfl ?_; clear HM; intro w37 HM))
  refine bodyPost_ret (results_cell_row rfl _ _ gb490 46 #[.int .i64 a0_0, .int .i64 a0_1, .slice Xo36 (t493 ++ [(⟨(rd_T76 l0_2 a1).f0, (rd_T76 l0_2 a1).f1, (rd_T76 l0_2 a1).f2⟩ : S76)]).length ko36] (0, 0) _ rfl (HM.bx 2 rfl) Try.underlying46 rfl (by kernel_rfl)) rfl ?_
  exact ⟨_, ER, (MD HM).pick [4]⟩
 ·have c12b0 : (a0_0 == 2) = false := beq_eq_false_iff_ne.mpr c12
  have c12b1 : (a0_0 != 2) = true := bne_iff_ne.mpr c12
  (first | rw [c12b0] | (simp only [i64_w, i32_w]; rw [c12b0]) | skip)
  go_upto_if 24 with (fail)
  replace H := IT H; rcases H with ⟨c38, H⟩ | ⟨c38, H⟩
  ·have c38b0 : (a0_0 == 3) = true := beq_iff_eq.mpr c38
   have c38b1 : (a0_0 != 3) = false := bne_eq_false_iff_eq.mpr c38
   clear c38
   (first | rw [c38b0] | (simp only [i64_w, i32_w]; rw [c38b0]) | skip)
   simp only [Option.some.injEq, Prod.mk.injEq] at H
   obtain ⟨rfl, rfl, rfl⟩ := H
   have p39 : 0 ≤ (a1 : Int) := of_decide_eq_true AS
   have q39 : (a1 : Int) < ((l0_2.length : Int) : Int) := of_decide_eq_true AS
   obtain ⟨hx39_0, hx39_1, hx39_2, hf39_0, hf39_1, hf39_2⟩ := HM.el3 0 rfl z76 (a1 : Int) p39 (by have h_ := (HM.CR 0 rfl).1; omega) (.string ((rd_T76 l0_2 a1).f0)) (.string ((rd_T76 l0_2 a1).f1)) (.int .i64 ((rd_T76 l0_2 a1).f2)) (fun _ _ h => k76_openM h)
   replace p39 := eq_true p39
   replace q39 := eq_true q39
   go_wp2_with (first | ((with_reducible refine gS 30 rfl ?_); refine pPR 0 30 (a1 : Int) 2 [.int .i64 1] k76 76 l0_2 (⟨(rd_T76 l0_2 a1).f0, (rd_T76 l0_2 a1).f1, 1⟩ : S76) z76 [.string ((rd_T76 l0_2 a1).f0), .string ((rd_T76 l0_2 a1).f1), .int .i64 ((rd_T76 l0_2 a1).f2)] HM rfl rfl (of_decide_eq_true AS) (by have h_ : (a1 : Int) < ((l0_2.length : Int) : Int) := of_decide_eq_true AS; have e_ := (HM.CR 0 rfl).1; omega) (fun _ _ h => k76_openM h) (k76_mkM _ _ _ (⟨(rd_T76 l0_2 a1).f0, (rd_T76 l0_2 a1).f1, 1⟩ : S76)) ?_; clear HM; intro w40 HM; obtain ⟨z41_0, z41_1, z41_2, Z41_0, Z41_1, Z41_2⟩ := bk3 (HM.bx 1 rfl)) | ((with_reducible refine gS 4 rfl ?_); refine pS 2 4 0 [.int .i64 a0_0, .int .i64 a0_1, .slice (some ⟨go491, 0, none⟩) l0_2.length ko3] HM rfl rfl ?_; clear HM; intro w42 HM))
   refine bodyPost_ret (results_cell_row rfl _ _ gb490 46 #[.int .i64 a0_0, .int .i64 a0_1, .slice (some ⟨go491, 0, none⟩) l0_2.length ko3] (0, 0) _ rfl (HM.bx 2 rfl) Try.underlying46 rfl (by kernel_rfl)) rfl ?_
   exact ⟨_, ER, (MD HM).pick [0]⟩
  ·have c38b0 : (a0_0 == 3) = false := beq_eq_false_iff_ne.mpr c38
   have c38b1 : (a0_0 != 3) = true := bne_iff_ne.mpr c38
   (first | rw [c38b0] | (simp only [i64_w, i32_w]; rw [c38b0]) | skip)
   simp only [Option.some.injEq, Prod.mk.injEq] at H
   obtain ⟨rfl, rfl, rfl⟩ := H
   go_wp2_with (first | ((with_reducible refine gS 4 rfl ?_); refine pS 2 4 0 [.int .i64 a0_0, .int .i64 a0_1, .slice (some ⟨go491, 0, none⟩) l0_2.length ko3] HM rfl rfl ?_; clear HM; intro w43 HM))
   refine bodyPost_ret (results_cell_row rfl _ _ gb490 46 #[.int .i64 a0_0, .int .i64 a0_1, .slice (some ⟨go491, 0, none⟩) l0_2.length ko3] (0, 0) _ rfl (HM.bx 2 rfl) Try.underlying46 rfl (by kernel_rfl)) rfl ?_
   exact ⟨_, ER, (MD HM).pick [0]⟩
def spec_RowGet.f (k : Nat) (a0_0 : Int) (a0_1 : Int) (l0_2 : List (S76)) (a1 : ByteArray) : Option (Int × Int × (List (S76)) × ByteArray × Bool) := (spec_RowOk.f k a0_0 a0_1 l0_2).bind fun t502 => (if t502 = true then ((spec_l11Copy.f a0_0 a0_1 l0_2).bind fun bt503 => ((spec_l10At.f k l0_2 a1).bind fun t509 => (if t509 < 0 then (some (bt503.1, bt503.2.1, bt503.2.2, (⟨#[]⟩ : ByteArray), false)) else ((spec_l11Touch.f k bt503.1 bt503.2.1 bt503.2.2 t509).bind fun bt510 => (if 0 ≤ t509 then (if t509 < (l0_2.length : Int) then (some (bt510.1, bt510.2.1, bt510.2.2, (rd_T76 l0_2 t509).f1, true)) else (none)) else (none)))))) else (some (0, 0, ([] : List (S76)), (⟨#[]⟩ : ByteArray), false)))
def spec_RowGet.T7 : Bool × List (List Nat × List Nat) := (true, [([], []), ([], []), ([0, 1], [0, 1]), ([], []), ([3], [3]), ([], []), ([4, 5], [4, 5]), ([6], [6]), ([7], [7]), ([2, 2, 0, 1, 2], [2]), ([8, 9, 0, 1, 2, 3, 4, 5, 6, 7, 8, 9], [8]), ([10, 0, 1, 2, 3, 4, 5, 6, 7, 8, 9, 10], [])])
def spec_RowGet.B7 : List Nat := [0, 0, 3, 0, 8, 0, 56, 120, 248, 7, 1023, 2047]
theorem spec_RowGet.tab7 : rtab .any (opsOf Try.f96 7) = spec_RowGet.T7 := by kernel_rfl
theorem spec_RowGet.bits7 : waitsOk spec_RowGet.T7.2 spec_RowGet.B7 = true := by kernel_rfl
set_option maxHeartbeats 8000000 in
set_option maxRecDepth 100000 in
theorem spec_RowGet.calls (k : Nat) (a0_0 : Int) (a0_1 : Int) (A0_2 : Option Addr) (c0_2 : Nat) (l0_2 : List (S76)) (a1 : ByteArray) (r1 : Int) (r2 : Int) (r3 : List (S76)) (r4 : ByteArray) (r5 : Bool) (w : World) (hr0_2 : Kd.C k76 w A0_2 l0_2.length l0_2) (hc0_2 : l0_2.length ≤ c0_2) (h : spec_RowGet.f k a0_0 a0_1 l0_2 a1 = some (r1, r2, r3, r4, r5)) :
  Calls Try.prog 96 #[.agg #[.int .i64 a0_0, .int .i64 a0_1, .slice A0_2 l0_2.length c0_2], .string a1] w fun e w' => ∃ v2_ : Value, e = .returned (.tuple #[.agg #[.int .i64 r1, .int .i64 r2, v2_], .string r4, .bool r5]) ∧ Mem w [] w' [rowR k76 76 v2_ r3] := by
 have hu46 := Try.underlying46
 have HR0_2 := Aside0.mk hr0_2
 have HC0_2 := Aside0.mk hc0_2
 clear hr0_2 hc0_2
 have HM := Mem.nil w
 have H := h
 clear h
 unfold spec_RowGet.f at H
 go_enter Try.func96, Try.ntmps96
 replace H := BN H; obtain ⟨t502, A6, H⟩ := H
 go_upto_if 11 with (first | ((with_reducible refine gN 2 rfl ?_); refine pB 2 46 [.int .i64 a0_0, .int .i64 a0_1, .slice A0_2 l0_2.length c0_2] HM rfl ?_; clear HM; intro gb500 w3 HM) | ((with_reducible refine gN 4 rfl ?_); refine pB 4 46 [.int .i64 0, .int .i64 0, .slice none 0 0] HM rfl ?_; clear HM; intro gb501 w4 HM; obtain ⟨z5_0, z5_1, z5_2, Z5_0, Z5_1, Z5_2⟩ := bk3 (HM.bx 0 rfl)) | ((with_reducible refine gC 77 rfl ?_); refine pC (some 10) rfl #[.agg #[.int .i64 a0_0, .int .i64 a0_1, .slice A0_2 l0_2.length c0_2]] rfl Try.func77 (spec_RowOk.calls k a0_0 a0_1 _ _ l0_2 t502 _ (HM.came HR0_2.out) HC0_2.out A6.out) ?_; rintro e w7 ⟨rfl, hR⟩; refine ⟨_, rfl, ?_⟩; replace HM := HM.call hR; clear hR))
 replace HM := nzM HM
 replace H := IB H
 rcases H with ⟨c8, H⟩ | ⟨c8, H⟩
 ·subst c8
  replace H := BN H; obtain ⟨⟨t503, t504, t505⟩, A10, H⟩ := H
  replace H := BN H; obtain ⟨t509, A16, H⟩ := H
  obtain ⟨z9_0, z9_1, z9_2, Z9_0, Z9_1, Z9_2⟩ := bk3 (HM.bx 0 rfl)
  go_upto_if 20 with (first | ((with_reducible refine gC 113 rfl ?_); refine pC (some 14) rfl #[.agg #[.int .i64 a0_0, .int .i64 a0_1, .slice A0_2 l0_2.length c0_2]] rfl Try.func113 (spec_l11Copy.calls a0_0 a0_1 _ _ l0_2 t503 t504 t505 _ (HM.came HR0_2.out) HC0_2.out A10.out) ?_; rintro e w11 ⟨v506, rfl, hR⟩; refine ⟨_, rfl, ?_⟩; replace HM := HM.call hR; clear hR) | ((with_reducible refine gN 7 rfl ?_); refine pB 7 46 [.int .i64 0, .int .i64 0, .slice none 0 0] HM rfl ?_; clear HM; intro gb508 w12 HM; obtain ⟨Xo13, ko13, eo13⟩ := HM.rdR 2 rfl; subst eo13) | ((with_reducible refine gS 7 rfl ?_); refine pS 3 7 0 [.int .i64 t503, .int .i64 t504, .slice Xo13 t505.length ko13] HM rfl rfl ?_; clear HM; intro w14 HM; obtain ⟨z15_0, z15_1, z15_2, Z15_0, Z15_1, Z15_2⟩ := bk3 (HM.bx 0 rfl)) | ((with_reducible refine gC 100 rfl ?_); refine pC (some 18) rfl #[.slice A0_2 l0_2.length c0_2, .string a1] rfl Try.func100 (spec_l10At.calls k _ _ l0_2 a1 t509 _ (HM.came HR0_2.out) HC0_2.out A16.out) ?_; rintro e w17 ⟨rfl, hR⟩; refine ⟨_, rfl, ?_⟩; replace HM := HM.call hR; clear hR))
  replace HM := nzM HM
  replace H := IT H; rcases H with ⟨c18, H⟩ | ⟨c18, H⟩
  ·have c18b0 : decide (t509 < 0) = true := decide_eq_true c18
   clear c18
   (first | rw [c18b0] | (simp only [i64_w, i32_w]; rw [c18b0]) | skip)
   simp only [Option.some.injEq, Prod.mk.injEq] at H
   obtain ⟨rfl, rfl, rfl, rfl, rfl⟩ := H
   obtain ⟨z19_0, z19_1, z19_2, Z19_0, Z19_1, Z19_2⟩ := bk3 (HM.bx 3 rfl)
   go_wp2_with (first | ((with_reducible refine gS 4 rfl ?_); refine pS 1 4 0 [.int .i64 t503, .int .i64 t504, .slice Xo13 t505.length ko13] HM rfl rfl ?_; clear HM; intro w20 HM))
   refine bodyPost_ret (results_ctt rfl _ _ gb501 46 #[.int .i64 t503, .int .i64 t504, .slice Xo13 t505.length ko13] (0, 0) _ rfl (HM.bx 1 rfl) Try.underlying46 rfl (by kernel_rfl)) rfl ?_
   exact ⟨_, ER, (MD HM).pick [2]⟩
  ·have c18b0 : decide (t509 < 0) = false := decide_eq_false c18
   clear c18
   (first | rw [c18b0] | (simp only [i64_w, i32_w]; rw [c18b0]) | skip)
   try go_wp2
   replace H := BN H; obtain ⟨⟨t510, t511, t512⟩, A21, H⟩ := H
   replace H := GD H; obtain ⟨c22, H⟩ := H
   have c22b0 : decide (0 ≤ t509) = true := decide_eq_true c22
   clear c22
   replace H := GD H; obtain ⟨c23, H⟩ := H
   have c23b0 : decide (t509 < (l0_2.length : Int)) = true := decide_eq_true c23
   clear c23
   have p515 : 0 ≤ (t509 : Int) := of_decide_eq_true AS
   have q515 : (t509 : Int) < (l0_2.length : Int) := of_decide_eq_true AS
   obtain ⟨ad515, e515, hx515_0, hx515_1, hx515_2⟩ := at_T76 (HM.came HR0_2.out) t509 p515 q515
   cases e515
   replace p515 := eq_true p515
   replace q515 := eq_true q515
   refine RGN 12 [0, 1, 2, 3, 4, 5, 6, 7, 8, 9, 10, 11] (fun a0 b a w' => ∃ (v513 : Value), a = putSel a0 b [(0, 22, .agg #[.int .i64 t503, .int .i64 t504, .slice Xo13 t505.length ko13]), (1, 23, .int .i64 t509), (2, 24, .agg #[.int .i64 t510, .int .i64 t511, v513]), (3, 25, .pointer (some ⟨gb500, 2, none⟩)), (4, 26, .slice (some ad515) l0_2.length c0_2), (5, 27, .int .i64 t509), (6, 28, .pointer (some (ad515.add ((t509).toNat * 3)))), (7, 29, .pointer (some ⟨(ad515.add ((t509).toNat * 3)).block, (ad515.add ((t509).toNat * 3)).off + 1, none⟩)), (8, 30, .string ((rd_T76 l0_2 t509).f1)), (10, 5, .string ((rd_T76 l0_2 t509).f1)), (11, 6, .bool true)] ∧ Mem w [] w' [box 46 gb500 [.int .i64 a0_0, .int .i64 a0_1, .slice (some ad515) l0_2.length c0_2], sel (b 9) (box 46 gb501 [.int .i64 t510, .int .i64 t511, v513]) (box 46 gb501 [.int .i64 0, .int .i64 0, .slice none 0 0]), sel (b 2) (emp) (rowR k76 76 (.slice Xo13 t505.length ko13) t505), box 46 gb508 [.int .i64 t503, .int .i64 t504, .slice Xo13 t505.length ko13], sel (b 2) (rowR k76 76 v513 t512) (emp)]) spec_RowGet.tab7 spec_RowGet.bits7 ?_ ?_ ?_
   ·exact ⟨.bool false, PS0' rfl _, (HM.drew.ems 1).pick [0, 1, 2, 3, 4]⟩
   ·clear HM
    refine steps_cons ?_ ?_
    ·rintro b a w ⟨v513, ha, HM⟩ hb hon hoff
     refine ⟨_, rfl, fun K hK => ?_⟩
     replace ha := Aside0.mk ha
     obtain ⟨z29_0, z29_1, z29_2, Z29_0, Z29_1, Z29_2⟩ := bk3 (HM.bx 3 rfl)
     have e7 := PG ha 7
     exact VL (.agg #[.int .i64 t503, .int .i64 t504, .slice Xo13 t505.length ko13]) (hK.out _ _ ⟨v513, PUT ha 0 hb, HM⟩)
    refine steps_cons ?_ ?_
    ·rintro b a w ⟨v513, ha, HM⟩ hb hon hoff
     refine ⟨_, rfl, fun K hK => ?_⟩
     replace ha := Aside0.mk ha
     have e8 := PG ha 8
     exact VL (.int .i64 t509) (hK.out _ _ ⟨v513, PUT ha 1 hb, HM⟩)
    refine steps_cons ?_ ?_
    ·rintro b a w ⟨v513, ha, HM⟩ hb hon hoff
     refine ⟨_, rfl, fun K hK => ?_⟩
     replace ha := Aside0.mk ha
     replace HM := HM.sF 2 rfl hb
     have e22 := PE ha 0 hon
     have e23 := PE ha 1 hon
     refine ST (eC (some 24) rfl #[.agg #[.int .i64 t503, .int .i64 t504, .slice Xo13 t505.length ko13], .int .i64 t509] rfl Try.func114 (spec_l11Touch.calls k t503 t504 (.slice Xo13 t505.length ko13) t505 t509 t510 t511 t512 _ _ _ (HM.focus [0, 1, 3, 4] [2]) A21.out) ?_ (hargs := by (simp only [List.map_toArray, List.map_cons, List.map_nil, evc, eval_of e22, eval_of e23]) <;> rfl))
     rintro e w30 ⟨v513, rfl, hR⟩
     refine ⟨_, rfl, ?_⟩
     replace HM := nzM hR.unfocus
     clear hR
     exact hK.out _ _ ⟨v513, PUT ha 2 hb, ((HM.em.sF 1 rfl (hoff 9 (by kernel_rfl))).iF 1 rfl (hoff 9 (by kernel_rfl))).pick [0, 1, 5, 2, 4]⟩
    refine steps_cons ?_ ?_
    ·rintro b a w ⟨v513, ha, HM⟩ hb hon hoff
     refine ⟨_, rfl, fun K hK => ?_⟩
     replace ha := Aside0.mk ha
     have e2 := PG ha 2
     exact VL (.pointer (some ⟨gb500, 2, none⟩)) (hK.out _ _ ⟨v513, PUT ha 3 hb, HM⟩)
    refine steps_cons ?_ ?_
    ·rintro b a w ⟨v513, ha, HM⟩ hb hon hoff
     refine ⟨_, rfl, fun K hK => ?_⟩
     replace ha := Aside0.mk ha
     obtain ⟨z31_0, z31_1, z31_2, Z31_0, Z31_1, Z31_2⟩ := bk3 (HM.bx 0 rfl)
     have e25 := PE ha 3 hon
     exact VL (.slice (some ad515) l0_2.length c0_2) (hK.out _ _ ⟨v513, PUT ha 4 hb, HM⟩)
    refine steps_cons ?_ ?_
    ·rintro b a w ⟨v513, ha, HM⟩ hb hon hoff
     refine ⟨_, rfl, fun K hK => ?_⟩
     replace ha := Aside0.mk ha
     have e8 := PG ha 8
     exact VL (.int .i64 t509) (hK.out _ _ ⟨v513, PUT ha 5 hb, HM⟩)
    refine steps_cons ?_ ?_
    ·rintro b a w ⟨v513, ha, HM⟩ hb hon hoff
     refine ⟨_, rfl, fun K hK => ?_⟩
     replace ha := Aside0.mk ha
     have p515 : 0 ≤ (t509 : Int) := of_decide_eq_true AS
     have q515 : (t509 : Int) < (l0_2.length : Int) := of_decide_eq_true AS
     obtain ⟨ad515, e515, hx515_0, hx515_1, hx515_2⟩ := at_T76 (HM.came HR0_2.out) t509 p515 q515
     obtain rfl := Option.some.inj e515
     replace p515 := eq_true p515
     replace q515 := eq_true q515
     have e26 := PE ha 4 hon
     have e27 := PE ha 5 hon
     exact VL (.pointer (some (ad515.add ((t509).toNat * 3)))) (hK.out _ _ ⟨v513, PUT ha 6 hb, HM⟩)
    refine steps_cons ?_ ?_
    ·rintro b a w ⟨v513, ha, HM⟩ hb hon hoff
     refine ⟨_, rfl, fun K hK => ?_⟩
     replace ha := Aside0.mk ha
     have e28 := PE ha 6 hon
     exact VL (.pointer (some ⟨(ad515.add ((t509).toNat * 3)).block, (ad515.add ((t509).toNat * 3)).off + 1, none⟩)) (hK.out _ _ ⟨v513, PUT ha 7 hb, HM⟩)
    refine steps_cons ?_ ?_
    ·rintro b a w ⟨v513, ha, HM⟩ hb hon hoff
     refine ⟨_, rfl, fun K hK => ?_⟩
     replace ha := Aside0.mk ha
     have p515 : 0 ≤ (t509 : Int) := of_decide_eq_true AS
     have q515 : (t509 : Int) < (l0_2.length : Int) := of_decide_eq_true AS
     obtain ⟨ad515, e515, hx515_0, hx515_1, hx515_2⟩ := at_T76 (HM.came HR0_2.out) t509 p515 q515
     obtain rfl := Option.some.inj e515
     replace p515 := eq_true p515
     replace q515 := eq_true q515
     have e29 := PE ha 7 hon
     exact VL (.string ((rd_T76 l0_2 t509).f1)) (hK.out _ _ ⟨v513, PUT ha 8 hb, HM⟩)
    refine steps_cons ?_ ?_
    ·rintro b a w ⟨v513, ha, HM⟩ hb hon hoff
     refine ⟨_, rfl, fun K hK => ?_⟩
     replace ha := Aside0.mk ha
     replace HM := HM.sF 1 rfl hb
     replace HM := HM.sT 4 rfl (hon 2 (by kernel_rfl))
     obtain ⟨Xo32, ko32, eo32⟩ := HM.rdR 4 rfl
     subst eo32
     have e4 := PG ha 4
     have e24 := PE ha 2 hon
     refine ST (eS 1 4 0 [.int .i64 t510, .int .i64 t511, .slice Xo32 t512.length ko32] HM rfl rfl ?_ (hp := (eval_of e4)) (hx := (by rw [eval_of e24]; rfl)))
     clear HM
     intro w33 HM
     exact hK.out _ _ ⟨.slice Xo32 t512.length ko32, PUS ha, (HM.iT 4 rfl (hon 2 (by kernel_rfl))).pick [0, 1, 2, 3, 4]⟩
    refine steps_cons ?_ ?_
    ·rintro b a w ⟨v513, ha, HM⟩ hb hon hoff
     refine ⟨_, rfl, fun K hK => ?_⟩
     replace ha := Aside0.mk ha
     have e30 := PE ha 8 hon
     exact VL (.string ((rd_T76 l0_2 t509).f1)) (hK.out _ _ ⟨v513, PUT ha 9 hb, HM⟩)
    refine steps_cons ?_ ?_
    ·rintro b a w ⟨v513, ha, HM⟩ hb hon hoff
     refine ⟨_, rfl, fun K hK => ?_⟩
     replace ha := Aside0.mk ha
     exact VL (.bool true) (hK.out _ _ ⟨v513, PUT ha 10 hb, HM⟩)
    exact steps_nil
   rintro _ w34 ⟨v513, rfl, HM⟩
   replace HM := HM.sT 1 rfl rfl
   replace HM := HM.sT 2 rfl rfl
   replace HM := HM.sT 4 rfl rfl
   simp only [putSel, if_true, Act.put, List.setIfInBounds_toArray, List.set_cons_zero, List.set_cons_succ, gt_iff_lt, ge_iff_le]
   simp only [Option.some.injEq, Prod.mk.injEq] at H
   obtain ⟨rfl, rfl, rfl, rfl, rfl⟩ := H
   go_wp2
   refine bodyPost_ret (results_ctt rfl _ _ gb501 46 #[.int .i64 t510, .int .i64 t511, v513] (0, 0) _ rfl (HM.bx 1 rfl) Try.underlying46 rfl (by kernel_rfl)) rfl ?_
   exact ⟨_, ER, (MD HM).pick [4]⟩
 ·subst c8
  simp only [Option.some.injEq, Prod.mk.injEq] at H
  obtain ⟨rfl, rfl, rfl, rfl, rfl⟩ := H
  go_wp2_with (first | ((with_reducible refine gS 4 rfl ?_); refine pS 1 4 0 [.int .i64 0, .int .i64 0, .slice none 0 0] HM rfl rfl ?_; clear HM; intro w35 HM; replace HM := HM.nl k76 76))
  refine bodyPost_ret (results_ctt rfl _ _ gb501 46 #[.int .i64 0, .int .i64 0, .slice none 0 0] (0, 0) _ rfl (HM.bx 1 rfl) Try.underlying46 rfl (by kernel_rfl)) rfl ?_
  exact ⟨_, ER, (MD HM).pick [2]⟩
mutual
def spec_RowPut.j0 : Nat → ByteArray → ByteArray → Bool → Int → Int → List (S76) → Option (Int × Int × (List (S76)) × List ByteArray × Bool)
 | 0, _, _, _, _, _, _ => none
 | k + 1, x1, x2, x22, x518000, x518001, x518002 => if x22 = true then (some (0, 0, ([] : List (S76)), ([] : List ByteArray), false)) else ((spec_l11Copy.f x518000 x518001 x518002).bind fun bt521 => ((spec_l10At.f k x518002 x1).bind fun t527 => (if t527 ≥ 0 then (if 0 ≤ t527 then (if t527 < (bt521.2.2.length : Int) then ((spec_l11Touch.f k bt521.1 bt521.2.1 (bt521.2.2.set (t527 : Int).toNat (⟨(rd_T76 bt521.2.2 t527).f0, x2, (rd_T76 bt521.2.2 t527).f2⟩ : S76)) t527).bind fun bt529 => (some (bt529.1, bt529.2.1, bt529.2.2, ([] : List ByteArray), true))) else (none)) else (none)) else ((some (([] : List ByteArray) : List ByteArray)).bind fun y534 => (if (bt521.2.2.length : Int) = bt521.2.1 then (spec_RowPut.l0 k x1 x2 y534 bt521.1 bt521.2.1 bt521.2.2) else (if bt521.2.2.length < 3518437208883 then (some (bt521.1, bt521.2.1, (bt521.2.2 ++ [(⟨x1, x2, 0⟩ : S76)]), y534, true)) else (none)))))))
def spec_RowPut.l0 : Nat → ByteArray → ByteArray → List ByteArray → Int → Int → List (S76) → Option (Int × Int × (List (S76)) × List ByteArray × Bool)
 | 0, _, _, _, _, _, _ => none
 | k + 1, x1, x2, x11, x527000, x527001, x527002 => if 0 < (x527002.length : Int) then (if ((rd_T76 x527002 0).f2) = 1 then ((some (([] : List (S76)) : List (S76))).bind fun y540 => (if 1 ≤ (x527002.length : Int) then ((some (x527002.drop 1 : List (S76))).bind fun y543 => (if y540.length + y543.length < 3518437208883 then ((some (y540 ++ y543 : List (S76))).bind fun y547 => (if y547.length < 3518437208883 then (spec_RowPut.l0 k x1 x2 x11 x527000 x527001 (y547 ++ [(⟨(rd_T76 x527002 0).f0, (rd_T76 x527002 0).f1, 0⟩ : S76)])) else (none))) else (none))) else (none))) else (if x11.length < 8796093022208 then ((some (([] : List (S76)) : List (S76))).bind fun y557 => (if 1 ≤ (x527002.length : Int) then ((some (x527002.drop 1 : List (S76))).bind fun y560 => (if y557.length + y560.length < 3518437208883 then ((some (y557 ++ y560 : List (S76))).bind fun y564 => (if y564.length < 3518437208883 then (some (x527000, x527001, (y564 ++ [(⟨x1, x2, 0⟩ : S76)]), (x11 ++ [(rd_T76 x527002 0).f0]), true)) else (none))) else (none))) else (none))) else (none))) else (none)
end
def spec_RowPut.f (k : Nat) (a0_0 : Int) (a0_1 : Int) (l0_2 : List (S76)) (a1 : ByteArray) (a2 : ByteArray) : Option (Int × Int × (List (S76)) × List ByteArray × Bool) := (spec_RowOk.f k a0_0 a0_1 l0_2).bind fun t519 => (if t519 = true then ((spec_ItemOk.f k a1 a2 0).bind fun t520 => (spec_RowPut.j0 k a1 a2 (!t520) a0_0 a0_1 l0_2)) else (spec_RowPut.j0 k a1 a2 true a0_0 a0_1 l0_2))
def spec_RowPut.T13 : Bool × List (List Nat × List Nat) := (true, [([], []), ([], []), ([1], [1]), ([2], [2]), ([0, 3], [0, 3]), ([], []), ([5], [5]), ([4, 6, 4], [4, 6]), ([0, 1, 2, 3, 4, 5, 6, 7], []), ([8, 7, 7, 0, 1, 2, 3, 4, 5, 6, 7], [7, 8])])
def spec_RowPut.B13 : List Nat := [0, 0, 2, 6, 15, 0, 32, 127, 255, 511]
theorem spec_RowPut.tab13 : rtab .any (opsOf Try.f97 13) = spec_RowPut.T13 := by kernel_rfl
theorem spec_RowPut.bits13 : waitsOk spec_RowPut.T13.2 spec_RowPut.B13 = true := by kernel_rfl
set_option maxHeartbeats 8000000 in
set_option maxRecDepth 100000 in
theorem spec_RowPut.calls (k : Nat) (a0_0 : Int) (a0_1 : Int) (A0_2 : Option Addr) (c0_2 : Nat) (l0_2 : List (S76)) (a1 : ByteArray) (a2 : ByteArray) (r1 : Int) (r2 : Int) (r3 : List (S76)) (r4 : List ByteArray) (r5 : Bool) (w : World) (hr0_2 : Kd.C k76 w A0_2 l0_2.length l0_2) (hc0_2 : l0_2.length ≤ c0_2) (h : spec_RowPut.f k a0_0 a0_1 l0_2 a1 a2 = some (r1, r2, r3, r4, r5)) :
  Calls Try.prog 97 #[.agg #[.int .i64 a0_0, .int .i64 a0_1, .slice A0_2 l0_2.length c0_2], .string a1, .string a2] w fun e w' => ∃ v2_ v3_ : Value, e = .returned (.tuple #[.agg #[.int .i64 r1, .int .i64 r2, v2_], v3_, .bool r5]) ∧ Mem w [] w' [rowR k76 76 v2_ r3, rowR Kd.string 9 v3_ r4] := by
 have hu46 := Try.underlying46
 have hu76 := Try.underlying76
 have HR0_2 := Aside0.mk hr0_2
 have HC0_2 := Aside0.mk hc0_2
 clear hr0_2 hc0_2
 have HM := Mem.nil w
 have H := h
 clear h
 unfold spec_RowPut.f at H
 go_enter Try.func97, Try.ntmps97
 have HC6 := Aside0.mk H
 clear H
 go_upto_region 1 with (first | ((with_reducible refine gN 3 rfl ?_); refine pB 3 46 [.int .i64 a0_0, .int .i64 a0_1, .slice A0_2 l0_2.length c0_2] HM rfl ?_; clear HM; intro gb517 w4 HM) | ((with_reducible refine gN 6 rfl ?_); refine pB 6 46 [.int .i64 0, .int .i64 0, .slice none 0 0] HM rfl ?_; clear HM; intro gb518 w5 HM))
 replace HM := nzM HM
 try simp only [Act.put, List.setIfInBounds_toArray, List.set_cons_zero, List.set_cons_succ]
 go_cut [22] (fun v22 wc => ∃ (kq : Nat) (x22_5 : Bool), v22 = .bool x22_5 ∧ Aside0 (spec_RowPut.j0 kq a1 a2 x22_5 a0_0 a0_1 l0_2 = some (r1, r2, r3, r4, r5)) ∧ Aside0 (kq ≤ k) ∧ Mem w [] wc [box 46 gb517 [.int .i64 a0_0, .int .i64 a0_1, .slice A0_2 l0_2.length c0_2], box 46 gb518 [.int .i64 0, .int .i64 0, .slice none 0 0]])
 case first =>
  have H := HC6.out
  clear HC6
  replace H := BN H; obtain ⟨t519, A8, H⟩ := H
  replace H := IB H
  rcases H with ⟨c10, H⟩ | ⟨c10, H⟩
  ·subst c10
   replace H := BN H; obtain ⟨t520, A11, H⟩ := H
   have H' := Aside0.mk H
   clear H
   obtain ⟨z7_0, z7_1, z7_2, Z7_0, Z7_1, Z7_2⟩ := bk3 (HM.bx 0 rfl)
   go_wp2_with (first | ((with_reducible refine gC 77 rfl ?_); refine pC (some 14) rfl #[.agg #[.int .i64 a0_0, .int .i64 a0_1, .slice A0_2 l0_2.length c0_2]] rfl Try.func77 (spec_RowOk.calls k a0_0 a0_1 _ _ l0_2 true _ (HM.came HR0_2.out) HC0_2.out A8.out) ?_; rintro e w9 ⟨rfl, hR⟩; refine ⟨_, rfl, ?_⟩; replace HM := HM.call hR; clear hR) | ((with_reducible refine gC 72 rfl ?_); refine pC (some 20) rfl #[.agg #[.string a1, .string a2, .int .i64 0]] rfl Try.func72 (spec_ItemOk.calls k a1 a2 0 t520 _ A11.out) ?_; rintro e w12 ⟨rfl, hR⟩; refine ⟨_, rfl, ?_⟩; replace HM := HM.call hR; clear hR))
   go_meet
   case rel => exact ⟨_, (!t520), RS, H', ⟨by first | omega | exact Nat.le_refl _⟩, (MD HM).pick [0, 1]⟩
  ·subst c10
   have H' := Aside0.mk H
   clear H
   obtain ⟨z7_0, z7_1, z7_2, Z7_0, Z7_1, Z7_2⟩ := bk3 (HM.bx 0 rfl)
   go_wp2_with (first | ((with_reducible refine gC 77 rfl ?_); refine pC (some 14) rfl #[.agg #[.int .i64 a0_0, .int .i64 a0_1, .slice A0_2 l0_2.length c0_2]] rfl Try.func77 (spec_RowOk.calls k a0_0 a0_1 _ _ l0_2 false _ (HM.came HR0_2.out) HC0_2.out A8.out) ?_; rintro e w9 ⟨rfl, hR⟩; refine ⟨_, rfl, ?_⟩; replace HM := HM.call hR; clear hR))
   go_meet
   case rel => exact ⟨_, (true), RS, H', ⟨by first | omega | exact Nat.le_refl _⟩, (MD HM).pick [0, 1]⟩
 case rest =>
  clear HC6 HM
  obtain ⟨kq, x22_5, rfl, HA, HJ5, HM⟩ := hcut
  cases kq with
  | zero => exact absurd HA.out (by simp [spec_RowPut.j0])
  | succ kj5 =>
   have H := HA.out
   clear HA
   simp only [spec_RowPut.j0] at H
   go_upto_if 22 with (fail)
   replace H := IB H
   rcases H with ⟨c13, H⟩ | ⟨c13, H⟩
   ·subst c13
    simp only [Option.some.injEq, Prod.mk.injEq] at H
    obtain ⟨rfl, rfl, rfl, rfl, rfl⟩ := H
    go_wp2_with (first | ((with_reducible refine gS 6 rfl ?_); refine pS 1 6 0 [.int .i64 0, .int .i64 0, .slice none 0 0] HM rfl rfl ?_; clear HM; intro w14 HM; replace HM := HM.nl k76 76; replace HM := HM.nl Kd.string 9))
    refine bodyPost_ret (results_ctt rfl _ _ gb518 46 #[.int .i64 0, .int .i64 0, .slice none 0 0] (0, 0) _ rfl (HM.bx 1 rfl) Try.underlying46 rfl (by kernel_rfl)) rfl ?_
    exact ⟨_, _, ER, (MD HM).pick [2, 3]⟩
   ·subst c13
    replace H := BN H; obtain ⟨⟨t521, t522, t523⟩, A16, H⟩ := H
    replace H := BN H; obtain ⟨t527, A22, H⟩ := H
    obtain ⟨z15_0, z15_1, z15_2, Z15_0, Z15_1, Z15_2⟩ := bk3 (HM.bx 0 rfl)
    go_upto_if 31 with (first | ((with_reducible refine gC 113 rfl ?_); refine pC (some 25) rfl #[.agg #[.int .i64 a0_0, .int .i64 a0_1, .slice A0_2 l0_2.length c0_2]] rfl Try.func113 (spec_l11Copy.calls a0_0 a0_1 _ _ l0_2 t521 t522 t523 _ (HM.came HR0_2.out) HC0_2.out A16.out) ?_; rintro e w17 ⟨v524, rfl, hR⟩; refine ⟨_, rfl, ?_⟩; replace HM := HM.call hR; clear hR) | ((with_reducible refine gN 9 rfl ?_); refine pB 9 46 [.int .i64 0, .int .i64 0, .slice none 0 0] HM rfl ?_; clear HM; intro gb526 w18 HM; obtain ⟨Xo19, ko19, eo19⟩ := HM.rdR 2 rfl; subst eo19) | ((with_reducible refine gS 9 rfl ?_); refine pS 3 9 0 [.int .i64 t521, .int .i64 t522, .slice Xo19 t523.length ko19] HM rfl rfl ?_; clear HM; intro w20 HM; obtain ⟨z21_0, z21_1, z21_2, Z21_0, Z21_1, Z21_2⟩ := bk3 (HM.bx 0 rfl)) | ((with_reducible refine gC 100 rfl ?_); refine pC (some 29) rfl #[.slice A0_2 l0_2.length c0_2, .string a1] rfl Try.func100 (spec_l10At.calls kj5 _ _ l0_2 a1 t527 _ (HM.came HR0_2.out) HC0_2.out A22.out) ?_; rintro e w23 ⟨rfl, hR⟩; refine ⟨_, rfl, ?_⟩; replace HM := HM.call hR; clear hR))
    replace HM := nzM HM
    replace H := IT H; rcases H with ⟨c24, H⟩ | ⟨c24, H⟩
    ·have c24b0 : decide (0 ≤ t527) = true := decide_eq_true c24
     clear c24
     (first | rw [c24b0] | (simp only [i64_w, i32_w]; rw [c24b0]) | skip)
     replace H := GD H; obtain ⟨c26, H⟩ := H
     have c26b0 : decide (0 ≤ t527) = true := decide_eq_true c26
     clear c26
     replace H := GD H; obtain ⟨c27, H⟩ := H
     have c27b0 : decide (t527 < (t523.length : Int)) = true := decide_eq_true c27
     clear c27
     replace H := BN H; obtain ⟨⟨t529, t530, t531⟩, A31, H⟩ := H
     simp only [Option.some.injEq, Prod.mk.injEq] at H
     obtain ⟨rfl, rfl, rfl, rfl, rfl⟩ := H
     obtain ⟨z25_0, z25_1, z25_2, Z25_0, Z25_1, Z25_2⟩ := bk3 (HM.bx 3 rfl)
     have p28 : 0 ≤ (t527 : Int) := of_decide_eq_true AS
     have q28 : (t527 : Int) < ((t523.length : Int) : Int) := of_decide_eq_true AS
     obtain ⟨go28, ef28⟩ := HM.form 2 rfl (by have h_ := (HM.CR 2 rfl).1; omega)
     subst ef28
     obtain ⟨hx28_0, hx28_1, hx28_2, hf28_0, hf28_1, hf28_2⟩ := HM.el3 2 rfl z76 (t527 : Int) p28 (by have h_ := (HM.CR 2 rfl).1; omega) (.string ((rd_T76 t523 t527).f0)) (.string ((rd_T76 t523 t527).f1)) (.int .i64 ((rd_T76 t523 t527).f2)) (fun _ _ h => k76_openM h)
     replace p28 := eq_true p28
     replace q28 := eq_true q28
     go_wp2_with (first | ((with_reducible refine gS 37 rfl ?_); refine pPR 2 37 (t527 : Int) 1 [.string a2] k76 76 t523 (⟨(rd_T76 t523 t527).f0, a2, (rd_T76 t523 t527).f2⟩ : S76) z76 [.string ((rd_T76 t523 t527).f0), .string ((rd_T76 t523 t527).f1), .int .i64 ((rd_T76 t523 t527).f2)] HM rfl rfl (of_decide_eq_true AS) (by have h_ : (t527 : Int) < ((t523.length : Int) : Int) := of_decide_eq_true AS; have e_ := (HM.CR 2 rfl).1; omega) (fun _ _ h => k76_openM h) (k76_mkM _ _ _ (⟨(rd_T76 t523 t527).f0, a2, (rd_T76 t523 t527).f2⟩ : S76)) ?_; clear HM; intro w29 HM; obtain ⟨z30_0, z30_1, z30_2, Z30_0, Z30_1, Z30_2⟩ := bk3 (HM.bx 3 rfl)) | ((with_reducible refine gC 114 rfl ?_); refine pC (some 40) rfl #[.agg #[.int .i64 t521, .int .i64 t522, .slice (some ⟨go28, 0, none⟩) t523.length ko19], .int .i64 t527] rfl Try.func114 (spec_l11Touch.calls kj5 t521 t522 (.slice (some ⟨go28, 0, none⟩) t523.length ko19) (t523.set (t527 : Int).toNat (⟨(rd_T76 t523 t527).f0, a2, (rd_T76 t523 t527).f2⟩ : S76)) t527 t529 t530 t531 _ _ _ (HM.focus [0, 1, 3] [2]) A31.out) ?_; rintro e w32 ⟨v532, rfl, hR⟩; refine ⟨_, rfl, ?_⟩; replace HM := nzM hR.unfocus; clear hR; obtain ⟨Xo33, ko33, eo33⟩ := HM.rdR 3 rfl; subst eo33) | ((with_reducible refine gS 6 rfl ?_); refine pS 1 6 0 [.int .i64 t529, .int .i64 t530, .slice Xo33 t531.length ko33] HM rfl rfl ?_; clear HM; intro w34 HM; replace HM := HM.nl Kd.string 9))
     refine bodyPost_ret (results_ctt rfl _ _ gb518 46 #[.int .i64 t529, .int .i64 t530, .slice Xo33 t531.length ko33] (0, 0) _ rfl (HM.bx 1 rfl) Try.underlying46 rfl (by kernel_rfl)) rfl ?_
     exact ⟨_, _, ER, (MD HM).pick [3, 4]⟩
    ·have c24b0 : decide (0 ≤ t527) = false := decide_eq_false c24
     clear c24
     (first | rw [c24b0] | (simp only [i64_w, i32_w]; rw [c24b0]) | skip)
     replace H := BLt H; obtain ⟨y534, Ny534, H⟩ := H
     replace Ny534 := Aside0.mk Ny534
     go_upto_if 47 with (first | ((with_reducible refine gN 41 rfl ?_); refine pL 41 Kd.string 9 ([] : List ByteArray) [] (Reps.none _ _) HM rfl ?_; clear HM; intro v535 w35 HM; replace HM := HM.nm 4 rfl Ny534.out; obtain ⟨z36_0, z36_1, z36_2, Z36_0, Z36_1, Z36_2⟩ := bk3 (HM.bx 3 rfl)))
     replace H := IT H; rcases H with ⟨c37, H⟩ | ⟨c37, H⟩
     ·have c37b0 : ((t523.length : Int) == t522) = true := beq_iff_eq.mpr c37
      have c37b1 : ((t523.length : Int) != t522) = false := bne_eq_false_iff_eq.mpr c37
      clear c37
      (first | rw [c37b0] | (simp only [i64_w, i32_w]; rw [c37b0]) | skip)
      have H' := Aside0.mk H
      clear H
      go_wp2
      go_loopg [] kj5 (fun kq w' => ∃ (x527002_2 : List (S76)) (u527002 : Value), Aside0 (spec_RowPut.l0 kq a1 a2 y534 t521 t522 x527002_2 = some (r1, r2, r3, r4, r5)) ∧ Aside0 (kq ≤ kj5) ∧ Mem w [] w' [rowR Kd.string 9 v535 y534, rowR k76 76 u527002 x527002_2, box 46 gb517 [.int .i64 a0_0, .int .i64 a0_1, .slice A0_2 l0_2.length c0_2], box 46 gb518 [.int .i64 0, .int .i64 0, .slice none 0 0], box 46 gb526 [.int .i64 t521, .int .i64 t522, u527002]])
      case atStart => exact ⟨(t523), (.slice Xo19 t523.length ko19), H', ⟨Nat.le_refl _⟩, (MD HM).pick [4, 2, 0, 1, 3]⟩
      case round =>
       clear H' HM
       obtain ⟨x527002_2, u527002, HA, HK2, HM⟩ := hrel
       cases gk with
       | zero => exact absurd HA.out (by simp [spec_RowPut.l0])
       | succ k2 =>
        have H := HA.out
        clear HA
        simp only [spec_RowPut.l0] at H
        replace H := GD H; obtain ⟨c39, H⟩ := H
        replace c39 : 0 < (x527002_2.length : Int) := c39
        have c39b0 : decide (0 < (x527002_2.length : Int)) = true := decide_eq_true c39
        have c39b1 : decide (0 < x527002_2.length) = true := decide_eq_true (by omega)
        have c39b9 : decide (0 < x527002_2.length) = true := decide_eq_true (by omega)
        clear c39
        obtain ⟨z38_0, z38_1, z38_2, Z38_0, Z38_1, Z38_2⟩ := bk3 (HM.bx 4 rfl)
        obtain ⟨Xo40, ko40, eo40⟩ := HM.rdR 1 rfl
        subst eo40
        have p537 : 0 ≤ (0 : Int) := (by omega)
        have q537 : (0 : Int) < (x527002_2.length : Int) := of_decide_eq_true AS
        obtain ⟨ad537, e537, hx537_0, hx537_1, hx537_2⟩ := at_T76 (HM.CR 1 rfl).2.2 0 p537 q537
        cases e537
        have qi537 : (0 < x527002_2.length) = True := eq_true (by omega)
        (try rw [show ((0 : Int)).toNat = 0 from rfl] at hx537_0)
        (try rw [show 0 * 3 = 0 from rfl] at hx537_0)
        (try rw [Addr.add_zero'] at hx537_0)
        (try rw [show ((0 : Int)).toNat = 0 from rfl] at hx537_1)
        (try rw [show 0 * 3 = 0 from rfl] at hx537_1)
        (try rw [Addr.add_zero'] at hx537_1)
        (try rw [show ((0 : Int)).toNat = 0 from rfl] at hx537_2)
        (try rw [show 0 * 3 = 0 from rfl] at hx537_2)
        (try rw [Addr.add_zero'] at hx537_2)
        replace p537 := eq_true p537
        replace q537 := eq_true q537
        go_upto_if 53 with (fail)
        replace H := IT H; rcases H with ⟨c41, H⟩ | ⟨c41, H⟩
        ·have c41b0 : (((rd_T76 x527002_2 0).f2) == 1) = true := beq_iff_eq.mpr c41
         have c41b1 : (((rd_T76 x527002_2 0).f2) != 1) = false := bne_eq_false_iff_eq.mpr c41
         clear c41
         (first | rw [c41b0] | (simp only [i64_w, i32_w]; rw [c41b0]) | skip)
         have p538 : 0 ≤ (0 : Int) := (by omega)
         have q538 : (0 : Int) < (x527002_2.length : Int) := of_decide_eq_true AS
         obtain ⟨ad538, e538, hx538_0, hx538_1, hx538_2⟩ := at_T76 (HM.CR 1 rfl).2.2 0 p538 q538
         obtain rfl := Option.some.inj e538
         have qi538 : (0 < x527002_2.length) = True := eq_true (by omega)
         (try rw [show ((0 : Int)).toNat = 0 from rfl] at hx538_0)
         (try rw [show 0 * 3 = 0 from rfl] at hx538_0)
         (try rw [Addr.add_zero'] at hx538_0)
         (try rw [show ((0 : Int)).toNat = 0 from rfl] at hx538_1)
         (try rw [show 0 * 3 = 0 from rfl] at hx538_1)
         (try rw [Addr.add_zero'] at hx538_1)
         (try rw [show ((0 : Int)).toNat = 0 from rfl] at hx538_2)
         (try rw [show 0 * 3 = 0 from rfl] at hx538_2)
         (try rw [Addr.add_zero'] at hx538_2)
         replace p538 := eq_true p538
         replace q538 := eq_true q538
         try go_wp2_with (first | ((with_reducible refine gN 12 rfl ?_); refine pB 12 76 [.string (⟨#[]⟩ : ByteArray), .string (⟨#[]⟩ : ByteArray), .int .i64 0] HM rfl ?_; clear HM; intro gb539 w42 HM) | ((with_reducible refine gS 12 rfl ?_); refine pS 5 12 0 [.string ((rd_T76 x527002_2 0).f0), .string ((rd_T76 x527002_2 0).f1), .int .i64 ((rd_T76 x527002_2 0).f2)] HM rfl rfl ?_; clear HM; intro w43 HM) | ((with_reducible refine gS 58 rfl ?_); refine pS 5 58 2 [.int .i64 0] HM rfl rfl ?_; clear HM; intro w44 HM))
         replace H := BLt H; obtain ⟨y540, Ny540, H⟩ := H
         replace Ny540 := Aside0.mk Ny540
         replace H := GD H; obtain ⟨c45, H⟩ := H
         have c45b0 := eq_true c45
         have c45b1 : decide (1 ≤ (x527002_2.length : Int)) = true := decide_eq_true c45
         clear c45
         replace H := BLt H; obtain ⟨_, rfl, H⟩ := H
         replace H := GD H; obtain ⟨c46, H⟩ := H
         have LMc46 := Aside0.mk (show y540.length + (x527002_2.drop 1).length < 3518437208883 from c46)
         clear c46
         replace H := BLt H; obtain ⟨y547, Ny547, H⟩ := H
         replace Ny547 := Aside0.mk Ny547
         replace H := GD H; obtain ⟨c47, H⟩ := H
         have LMc47 := Aside0.mk (show y547.length < 3518437208883 from c47)
         clear c47
         refine RGN 10 [0, 1, 2, 3, 4, 5, 6, 7, 8, 9] (fun a0 b a w' => ∃ (v541 : Value) (v544 : Value) (v548 : Value) (v54 : Value) (v551 : Value), a = putSel a0 b [(0, 59, v541), (1, 60, .pointer (some ⟨gb526, 2, none⟩)), (2, 61, .slice (some ad537) x527002_2.length ko40), (3, 62, v544), (4, 63, v548), (5, 64, .agg #[.string ((rd_T76 x527002_2 0).f0), .string ((rd_T76 x527002_2 0).f1), .int .i64 0]), (6, 65, v54), (7, 66, v551), (8, 67, .pointer (some ⟨gb526, 2, none⟩))] ∧ Mem w [] w' [rowR Kd.string 9 v535 y534, sel (b 3) (row k76 76 v544 (x527002_2.drop 1)) (rowR k76 76 (.slice (some ad537) x527002_2.length ko40) x527002_2), box 46 gb517 [.int .i64 a0_0, .int .i64 a0_1, .slice A0_2 l0_2.length c0_2], box 46 gb518 [.int .i64 0, .int .i64 0, .slice none 0 0], sel (b 9) (box 46 gb526 [.int .i64 t521, .int .i64 t522, v551]) (box 46 gb526 [.int .i64 t521, .int .i64 t522, .slice (some ad537) x527002_2.length ko40]), box 76 gb539 [.string ((rd_T76 x527002_2 0).f0), .string ((rd_T76 x527002_2 0).f1), .int .i64 0], sel (b 7) (rowR k76 76 v551 (y547 ++ [(⟨(rd_T76 x527002_2 0).f0, (rd_T76 x527002_2 0).f1, 0⟩ : S76)])) (sel (b 4) (rowR k76 76 v548 y547) (sel (b 0) (rowR k76 76 v541 y540) (emp))), sel (b 6) (rowR k76 76 v54 [(⟨(rd_T76 x527002_2 0).f0, (rd_T76 x527002_2 0).f1, 0⟩ : S76)]) (emp)]) spec_RowPut.tab13 spec_RowPut.bits13 ?_ ?_ ?_
         ·exact ⟨.bool false, .bool false, .bool false, .bool false, .bool false, PS0' rfl _, (HM.drew.ems 2).pick [0, 1, 2, 3, 4, 5, 6, 7]⟩
         ·clear HM
          refine steps_cons ?_ ?_
          ·rintro b a w ⟨v541, v544, v548, v54, v551, ha, HM⟩ hb hon hoff
           refine ⟨_, rfl, fun K hK => ?_⟩
           replace ha := Aside0.mk ha
           refine ST (eL 59 k76 76 ([] : List (S76)) [] (Reps.none _ _) HM rfl ?_)
           clear HM
           intro v541 w59 HM
           replace HM := HM.nm 8 rfl Ny540.out
           exact hK.out _ _ ⟨v541, v544, v548, v54, v551, PUT ha 0 hb, ((HM.iF 8 rfl (hoff 4 (by kernel_rfl))).iF 8 rfl (hoff 7 (by kernel_rfl))).pick [0, 1, 2, 3, 4, 5, 8, 7]⟩
          refine steps_cons ?_ ?_
          ·rintro b a w ⟨v541, v544, v548, v54, v551, ha, HM⟩ hb hon hoff
           refine ⟨_, rfl, fun K hK => ?_⟩
           replace ha := Aside0.mk ha
           have e9 := PG ha 9
           exact VL (.pointer (some ⟨gb526, 2, none⟩)) (hK.out _ _ ⟨v541, v544, v548, v54, v551, PUT ha 1 hb, HM⟩)
          refine steps_cons ?_ ?_
          ·rintro b a w ⟨v541, v544, v548, v54, v551, ha, HM⟩ hb hon hoff
           refine ⟨_, rfl, fun K hK => ?_⟩
           replace ha := Aside0.mk ha
           have HZ := HM
           replace HM := HM.sF 4 rfl (hoff 9 (by kernel_rfl))
           obtain ⟨z60_0, z60_1, z60_2, Z60_0, Z60_1, Z60_2⟩ := bk3 (HM.bx 4 rfl)
           have e60 := PE ha 1 hon
           exact VL (.slice (some ad537) x527002_2.length ko40) (hK.out _ _ ⟨v541, v544, v548, v54, v551, PUT ha 2 hb, HZ⟩)
          refine steps_cons ?_ ?_
          ·rintro b a w ⟨v541, v544, v548, v54, v551, ha, HM⟩ hb hon hoff
           refine ⟨_, rfl, fun K hK => ?_⟩
           replace ha := Aside0.mk ha
           replace HM := HM.sF 1 rfl hb
           have e61 := PE ha 2 hon
           refine ST (eD 1 44 76 k76 _ _ 1 x527002_2 (some ad537) ko40 HM rfl Try.underlying44 info76 rfl (fun _ _ h => Kd.Q_of_R h) (by omega) (by have h_ : (1 : Int) ≤ ((x527002_2.length : Int) : Int) := of_decide_eq_true AS; first | exact h_ | (have e_ := (HM.CR 1 rfl).1; omega)) ?_ (hx := (eval_of e61)) (hl := rfl))
           clear HM
           intro v544 HM
           exact hK.out _ _ ⟨v541, v544, v548, v54, v551, PUT ha 3 hb, (HM).pick [0, 1, 2, 3, 4, 5, 6, 7]⟩
          refine steps_cons ?_ ?_
          ·rintro b a w ⟨v541, v544, v548, v54, v551, ha, HM⟩ hb hon hoff
           refine ⟨_, rfl, fun K hK => ?_⟩
           replace ha := Aside0.mk ha
           replace HM := HM.sT 1 rfl (hon 3 (by kernel_rfl))
           replace HM := ((HM.sF 6 rfl (hoff 7 (by kernel_rfl))).sF 6 rfl hb).sT 6 rfl (hon 0 (by kernel_rfl))
           obtain ⟨Xo61, ko61, eo61⟩ := HM.rd 1 rfl
           subst eo61
           have e59 := PE ha 0 hon
           have e62 := PE ha 3 hon
           refine ST (eA 6 (.tmp 59) (.tmp 62) 44 76 k76 v541 y540 (x527002_2.drop 1) Xo61 ((x527002_2.drop 1).length) ko61 HM rfl Try.underlying44 info76 rfl (HM.C 1 rfl).2.2 (by have h_ := LMc46.out; omega) ?_ (ops := #[]) (hw := by rfl) (hs := (eval_of e59)) (hx := (eval_of e62)))
           clear HM
           intro v548 w62 HM
           replace HM := HM.nm 6 rfl Ny547.out
           exact hK.out _ _ ⟨v541, .slice Xo61 (x527002_2.drop 1).length ko61, v548, v54, v551, PUT ha 4 hb, ((HM.iT 1 rfl (hon 3 (by kernel_rfl))).iF 6 rfl (hoff 7 (by kernel_rfl))).pick [0, 1, 2, 3, 4, 5, 6, 7]⟩
          refine steps_cons ?_ ?_
          ·rintro b a w ⟨v541, v544, v548, v54, v551, ha, HM⟩ hb hon hoff
           refine ⟨_, rfl, fun K hK => ?_⟩
           replace ha := Aside0.mk ha
           obtain ⟨z63_0, z63_1, z63_2, Z63_0, Z63_1, Z63_2⟩ := bk3 (HM.bx 5 rfl)
           have e12 := PG ha 12
           exact VL (.agg #[.string ((rd_T76 x527002_2 0).f0), .string ((rd_T76 x527002_2 0).f1), .int .i64 0]) (hK.out _ _ ⟨v541, v544, v548, v54, v551, PUT ha 5 hb, HM⟩)
          refine steps_cons ?_ ?_
          ·rintro b a w ⟨v541, v544, v548, v54, v551, ha, HM⟩ hb hon hoff
           refine ⟨_, rfl, fun K hK => ?_⟩
           replace ha := Aside0.mk ha
           have e64 := PE ha 5 hon
           refine ST (eL 65 k76 76 [(⟨(rd_T76 x527002_2 0).f0, (rd_T76 x527002_2 0).f1, 0⟩ : S76)] [.string ((rd_T76 x527002_2 0).f0), .string ((rd_T76 x527002_2 0).f1), .int .i64 0] (Reps.c3 (show Kd.M k76 _ _ _ (⟨(rd_T76 x527002_2 0).f0, (rd_T76 x527002_2 0).f1, 0⟩ : S76) [.string ((rd_T76 x527002_2 0).f0), .string ((rd_T76 x527002_2 0).f1), .int .i64 0] from (k76_mkM _ _ _ (⟨(rd_T76 x527002_2 0).f0, (rd_T76 x527002_2 0).f1, 0⟩ : S76))) (Reps.none _ _)) HM rfl ?_)
           clear HM
           intro v54 w64 HM
           exact hK.out _ _ ⟨v541, v544, v548, v54, v551, PUT ha 6 hb, (HM).pick [0, 1, 2, 3, 4, 5, 6, 8]⟩
          refine steps_cons ?_ ?_
          ·rintro b a w ⟨v541, v544, v548, v54, v551, ha, HM⟩ hb hon hoff
           refine ⟨_, rfl, fun K hK => ?_⟩
           replace ha := Aside0.mk ha
           replace HM := (HM.sF 6 rfl hb).sT 6 rfl (hon 4 (by kernel_rfl))
           replace HM := HM.sT 7 rfl (hon 6 (by kernel_rfl))
           obtain ⟨Xo65, ko65, eo65⟩ := HM.rdR 7 rfl
           subst eo65
           have e63 := PE ha 4 hon
           have e65 := PE ha 6 hon
           refine ST (eA 6 (.tmp 63) (.tmp 65) 44 76 k76 v548 y547 [(⟨(rd_T76 x527002_2 0).f0, (rd_T76 x527002_2 0).f1, 0⟩ : S76)] Xo65 ([(⟨(rd_T76 x527002_2 0).f0, (rd_T76 x527002_2 0).f1, 0⟩ : S76)].length) ko65 HM rfl Try.underlying44 info76 rfl (HM.CR 7 rfl).2.2 (by have h_ := LMc47.out; simp only [List.length_singleton]; omega) ?_ (ops := #[]) (hw := by rfl) (hs := (eval_of e63)) (hx := (eval_of e65)))
           clear HM
           intro v551 w66 HM
           exact hK.out _ _ ⟨v541, v544, v548, .slice Xo65 [(⟨(rd_T76 x527002_2 0).f0, (rd_T76 x527002_2 0).f1, 0⟩ : S76)].length ko65, v551, PUT ha 7 hb, (((HM.sF 4 rfl (hoff 9 (by kernel_rfl))).iF 4 rfl (hoff 9 (by kernel_rfl))).iT 7 rfl (hon 6 (by kernel_rfl))).pick [0, 1, 2, 3, 4, 5, 6, 7]⟩
          refine steps_cons ?_ ?_
          ·rintro b a w ⟨v541, v544, v548, v54, v551, ha, HM⟩ hb hon hoff
           refine ⟨_, rfl, fun K hK => ?_⟩
           replace ha := Aside0.mk ha
           have e9 := PG ha 9
           exact VL (.pointer (some ⟨gb526, 2, none⟩)) (hK.out _ _ ⟨v541, v544, v548, v54, v551, PUT ha 8 hb, HM⟩)
          refine steps_cons ?_ ?_
          ·rintro b a w ⟨v541, v544, v548, v54, v551, ha, HM⟩ hb hon hoff
           refine ⟨_, rfl, fun K hK => ?_⟩
           replace ha := Aside0.mk ha
           replace HM := HM.sF 4 rfl hb
           replace HM := HM.sT 6 rfl (hon 7 (by kernel_rfl))
           obtain ⟨Xo67, ko67, eo67⟩ := HM.rdR 6 rfl
           subst eo67
           have e67 := PE ha 8 hon
           have e66 := PE ha 7 hon
           refine ST (eS 4 67 2 [.slice Xo67 (y547 ++ [(⟨(rd_T76 x527002_2 0).f0, (rd_T76 x527002_2 0).f1, 0⟩ : S76)]).length ko67] HM rfl rfl ?_ (hp := (eval_of e67)) (hx := (by rw [eval_of e66]; rfl)))
           clear HM
           intro w68 HM
           exact hK.out _ _ ⟨v541, v544, v548, v54, .slice Xo67 (y547 ++ [(⟨(rd_T76 x527002_2 0).f0, (rd_T76 x527002_2 0).f1, 0⟩ : S76)]).length ko67, PUS ha, (HM.iT 6 rfl (hon 7 (by kernel_rfl))).pick [0, 1, 2, 3, 4, 5, 6, 7]⟩
          exact steps_nil
         rintro _ w69 ⟨v541, v544, v548, v54, v551, rfl, HM⟩
         replace HM := HM.sT 1 rfl rfl
         replace HM := HM.sT 4 rfl rfl
         replace HM := HM.sT 6 rfl rfl
         replace HM := HM.sT 7 rfl rfl
         simp only [putSel, if_true, Act.put, List.setIfInBounds_toArray, List.set_cons_zero, List.set_cons_succ, gt_iff_lt, ge_iff_le]
         have H' := Aside0.mk H
         clear H
         go_wp2
         go_roundg k2
         case measure => have := HJ5.out; have := HK2.out; omega
         case rel => exact ⟨((y547 ++ [(⟨(rd_T76 x527002_2 0).f0, (rd_T76 x527002_2 0).f1, 0⟩ : S76)])), (v551), H', ⟨by have := HJ5.out; have := HK2.out; omega⟩, (MD HM).pick [0, 6, 2, 3, 4]⟩
        ·have c41b0 : (((rd_T76 x527002_2 0).f2) == 1) = false := beq_eq_false_iff_ne.mpr c41
         have c41b1 : (((rd_T76 x527002_2 0).f2) != 1) = true := bne_iff_ne.mpr c41
         (first | rw [c41b0] | (simp only [i64_w, i32_w]; rw [c41b0]) | skip)
         replace H := GD H; obtain ⟨c70, H⟩ := H
         have LMc70 := Aside0.mk (show y534.length < 8796093022208 from c70)
         clear c70
         replace H := BLt H; obtain ⟨y557, Ny557, H⟩ := H
         replace Ny557 := Aside0.mk Ny557
         replace H := GD H; obtain ⟨c76, H⟩ := H
         have c76b0 := eq_true c76
         have c76b1 : decide (1 ≤ (x527002_2.length : Int)) = true := decide_eq_true c76
         clear c76
         replace H := BLt H; obtain ⟨_, rfl, H⟩ := H
         replace H := GD H; obtain ⟨c78, H⟩ := H
         have LMc78 := Aside0.mk (show y557.length + (x527002_2.drop 1).length < 3518437208883 from c78)
         clear c78
         replace H := BLt H; obtain ⟨y564, Ny564, H⟩ := H
         replace Ny564 := Aside0.mk Ny564
         replace H := GD H; obtain ⟨c83, H⟩ := H
         have LMc83 := Aside0.mk (show y564.length < 3518437208883 from c83)
         clear c83
         simp only [Option.some.injEq, Prod.mk.injEq] at H
         obtain ⟨rfl, rfl, rfl, rfl, rfl⟩ := H
         have p553 : 0 ≤ (0 : Int) := (by omega)
         have q553 : (0 : Int) < (x527002_2.length : Int) := of_decide_eq_true AS
         obtain ⟨ad553, e553, hx553_0, hx553_1, hx553_2⟩ := at_T76 (HM.CR 1 rfl).2.2 0 p553 q553
         obtain rfl := Option.some.inj e553
         have qi553 : (0 < x527002_2.length) = True := eq_true (by omega)
         (try rw [show ((0 : Int)).toNat = 0 from rfl] at hx553_0)
         (try rw [show 0 * 3 = 0 from rfl] at hx553_0)
         (try rw [Addr.add_zero'] at hx553_0)
         (try rw [show ((0 : Int)).toNat = 0 from rfl] at hx553_1)
         (try rw [show 0 * 3 = 0 from rfl] at hx553_1)
         (try rw [Addr.add_zero'] at hx553_1)
         (try rw [show ((0 : Int)).toNat = 0 from rfl] at hx553_2)
         (try rw [show 0 * 3 = 0 from rfl] at hx553_2)
         (try rw [Addr.add_zero'] at hx553_2)
         replace p553 := eq_true p553
         replace q553 := eq_true q553
         go_wp2_with (first | ((with_reducible refine gN 74 rfl ?_); refine pL 74 Kd.string 9 [(rd_T76 x527002_2 0).f0] [.string ((rd_T76 x527002_2 0).f0)] (Reps.one (show Kd.M Kd.string _ _ _ ((rd_T76 x527002_2 0).f0) [.string ((rd_T76 x527002_2 0).f0)] from rfl) (Reps.none _ _)) HM rfl ?_; clear HM; intro v72 w71 HM; obtain ⟨Xv72, kv72, ev72⟩ := HM.rdR 5 rfl; subst ev72) | ((with_reducible refine gate_builtin (b := .append) (xs := #[.tmp 68, .tmp 74]) rfl ?_); refine pA 0 (.tmp 68) (.tmp 74) 24 9 Kd.string v535 y534 [(rd_T76 x527002_2 0).f0] Xv72 ([(rd_T76 x527002_2 0).f0].length) kv72 HM rfl Try.underlying24 info9 rfl (HM.CR 5 rfl).2.2 (by have h_ := LMc70.out; simp only [List.length_singleton]; omega) ?_; clear HM; intro v555 w73 HM) | ((with_reducible refine gN 76 rfl ?_); refine pL 76 k76 76 ([] : List (S76)) [] (Reps.none _ _) HM rfl ?_; clear HM; intro v558 w74 HM; replace HM := HM.nm 6 rfl Ny557.out; obtain ⟨z75_0, z75_1, z75_2, Z75_0, Z75_1, Z75_2⟩ := bk3 (HM.bx 4 rfl)) | ((with_reducible refine gate_sl (t := 44) rfl ?_); refine pRd 44 76 k76 _ _ 1 x527002_2 (some ad537) ko40 rfl Try.underlying44 info76 (HM.CR 1 rfl).2.2 (HM.CR 1 rfl).2.1 (by omega) (of_decide_eq_true AS) ?_; intro Yx77 bx77 hYx77 hbx77; have HYx77 := Aside0.mk hYx77; have HBx77 := Aside0.mk hbx77; clear hYx77 hbx77) | ((with_reducible refine gate_builtin (b := .append) (xs := #[.tmp 76, .tmp 79]) rfl ?_); refine pA 6 (.tmp 76) (.tmp 79) 44 76 k76 v558 y557 (x527002_2.drop 1) Yx77 ((x527002_2.drop 1).length) bx77 HM rfl Try.underlying44 info76 rfl HYx77.out (by have h_ := LMc78.out; omega) ?_; clear HM; intro v565 w79 HM; replace HM := HM.nm 6 rfl Ny564.out; obtain ⟨Xo80, ko80, eo80⟩ := HM.rdR 6 rfl; subst eo80) | ((with_reducible refine gS 81 rfl ?_); refine pS 4 81 2 [.slice Xo80 y564.length ko80] HM rfl rfl ?_; clear HM; intro w81 HM; obtain ⟨z82_0, z82_1, z82_2, Z82_0, Z82_1, Z82_2⟩ := bk3 (HM.bx 4 rfl)) | ((with_reducible refine gN 87 rfl ?_); refine pL 87 k76 76 [(⟨a1, a2, 0⟩ : S76)] [.string a1, .string a2, .int .i64 0] (Reps.c3 (show Kd.M k76 _ _ _ (⟨a1, a2, 0⟩ : S76) [.string a1, .string a2, .int .i64 0] from (k76_mkM _ _ _ (⟨a1, a2, 0⟩ : S76))) (Reps.none _ _)) HM rfl ?_; clear HM; intro v85 w84 HM; obtain ⟨Xv85, kv85, ev85⟩ := HM.rdR 7 rfl; subst ev85) | ((with_reducible refine gate_builtin (b := .append) (xs := #[.tmp 83, .tmp 87]) rfl ?_); refine pA 6 (.tmp 83) (.tmp 87) 44 76 k76 (.slice Xo80 y564.length ko80) y564 [(⟨a1, a2, 0⟩ : S76)] Xv85 ([(⟨a1, a2, 0⟩ : S76)].length) kv85 HM rfl Try.underlying44 info76 rfl (HM.CR 7 rfl).2.2 (by have h_ := LMc83.out; simp only [List.length_singleton]; omega) ?_; clear HM; intro v568 w86 HM; obtain ⟨Xo87, ko87, eo87⟩ := HM.rdR 6 rfl; subst eo87) | ((with_reducible refine gS 89 rfl ?_); refine pS 4 89 2 [.slice Xo87 (y564 ++ [(⟨a1, a2, 0⟩ : S76)]).length ko87] HM rfl rfl ?_; clear HM; intro w88 HM; obtain ⟨z89_0, z89_1, z89_2, Z89_0, Z89_1, Z89_2⟩ := bk3 (HM.bx 4 rfl)) | ((with_reducible refine gS 6 rfl ?_); refine pS 3 6 0 [.int .i64 t521, .int .i64 t522, .slice Xo87 (y564 ++ [(⟨a1, a2, 0⟩ : S76)]).length ko87] HM rfl rfl ?_; clear HM; intro w90 HM))
         refine bodyPost_ret (results_ctt rfl _ _ gb518 46 #[.int .i64 t521, .int .i64 t522, .slice Xo87 (y564 ++ [(⟨a1, a2, 0⟩ : S76)]).length ko87] (0, 0) _ rfl (HM.bx 3 rfl) Try.underlying46 rfl (by kernel_rfl)) rfl ?_
         exact ⟨_, _, ER, (MD HM).pick [6, 0]⟩
     ·have c37b0 : ((t523.length : Int) == t522) = false := beq_eq_false_iff_ne.mpr c37
      have c37b1 : ((t523.length : Int) != t522) = true := bne_iff_ne.mpr c37
      (first | rw [c37b0] | (simp only [i64_w, i32_w]; rw [c37b0]) | skip)
      replace H := GD H; obtain ⟨c91, H⟩ := H
      have LMc91 := Aside0.mk (show t523.length < 3518437208883 from c91)
      clear c91
      simp only [Option.some.injEq, Prod.mk.injEq] at H
      obtain ⟨rfl, rfl, rfl, rfl, rfl⟩ := H
      go_wp2_with (first | ((with_reducible refine gN 87 rfl ?_); refine pL 87 k76 76 [(⟨a1, a2, 0⟩ : S76)] [.string a1, .string a2, .int .i64 0] (Reps.c3 (show Kd.M k76 _ _ _ (⟨a1, a2, 0⟩ : S76) [.string a1, .string a2, .int .i64 0] from (k76_mkM _ _ _ (⟨a1, a2, 0⟩ : S76))) (Reps.none _ _)) HM rfl ?_; clear HM; intro v93 w92 HM; obtain ⟨Xv93, kv93, ev93⟩ := HM.rdR 5 rfl; subst ev93) | ((with_reducible refine gate_builtin (b := .append) (xs := #[.tmp 83, .tmp 87]) rfl ?_); refine pA 2 (.tmp 83) (.tmp 87) 44 76 k76 (.slice Xo19 t523.length ko19) t523 [(⟨a1, a2, 0⟩ : S76)] Xv93 ([(⟨a1, a2, 0⟩ : S76)].length) kv93 HM rfl Try.underlying44 info76 rfl (HM.CR 5 rfl).2.2 (by have h_ := LMc91.out; simp only [List.length_singleton]; omega) ?_; clear HM; intro v571 w94 HM; obtain ⟨Xo95, ko95, eo95⟩ := HM.rdR 2 rfl; subst eo95) | ((with_reducible refine gS 89 rfl ?_); refine pS 3 89 2 [.slice Xo95 (t523 ++ [(⟨a1, a2, 0⟩ : S76)]).length ko95] HM rfl rfl ?_; clear HM; intro w96 HM; obtain ⟨z97_0, z97_1, z97_2, Z97_0, Z97_1, Z97_2⟩ := bk3 (HM.bx 3 rfl)) | ((with_reducible refine gS 6 rfl ?_); refine pS 1 6 0 [.int .i64 t521, .int .i64 t522, .slice Xo95 (t523 ++ [(⟨a1, a2, 0⟩ : S76)]).length ko95] HM rfl rfl ?_; clear HM; intro w98 HM))
      refine bodyPost_ret (results_ctt rfl _ _ gb518 46 #[.int .i64 t521, .int .i64 t522, .slice Xo95 (t523 ++ [(⟨a1, a2, 0⟩ : S76)]).length ko95] (0, 0) _ rfl (HM.bx 1 rfl) Try.underlying46 rfl (by kernel_rfl)) rfl ?_
      exact ⟨_, _, ER, (MD HM).pick [2, 4]⟩
end Go.Proofs.Ytanakbmhclpamaa.G
