/- Part 2 of the claim FnTexts, merged by pack.py (this session's program) out of: the print's words, cut to what is needed; texts that gen.py printed (it runs the kit's print in place); texts of this session. -/
import Derived.Test.YthnedklbobbkcaaKFnTexts1
namespace Go.Proofs.Ythnedklbobbkcaa.Mm
end Go.Proofs.Ythnedklbobbkcaa.Mm
namespace Go.Proofs.Ythnedklbobbkcaa.Sh
end Go.Proofs.Ythnedklbobbkcaa.Sh
set_option maxHeartbeats 8000000
set_option maxRecDepth 100000
namespace Go.Proofs.Ythnedklbobbkcaa.G
open Go.RowKit Go.Proofs.YthnedklbobbkcaaW.PrintWords Go.Proofs.YthnedklbobbkcaaW.PrintLast Go.Proofs.YthnedklbobbkcaaW.PrintMore Go.Proofs.Ythnedklbobbkcaa.Sh
attribute [local go_sem] max2_int min2_int max_two min_two max_three min_three max_four min_four
set_option linter.unusedVariables false
set_option linter.unusedSimpArgs false
open Go.Proofs.Ythnedklbobbkcaa.Mm
mutual
def spec_l10Touch.j0 : Nat → Bool → ByteArray → Int → Int → Int → Int → List (S122) → List (S122) → List Int → ByteArray → ByteArray → Int → Option (Int × Int × (List (S122)) × (List (S122)) × List Int × ByteArray × Bool)
 | 0, _, _, _, _, _, _, _, _, _, _, _, _ => none
 | k + 1, x2, x3, x11, x12, x495000, x495001, x495002, x495003, x495004, x499000, x499001, x499002 => if x12 ≥ 0 then (if 0 ≤ x12 then (if x12 < (x495003.length : Int) then (spec_l10Touch.j1 k x2 x3 x11 x12 x495000 x495001 x495002 x495003 x495004 ((rd_T122 x495003 x12).f0) ((rd_T122 x495003 x12).f1) ((rd_T122 x495003 x12).f2)) else (none)) else (none)) else (spec_l10Touch.j1 k x2 x3 x11 x12 x495000 x495001 x495002 x495003 x495004 x499000 x499001 x499002)
def spec_l10Touch.j1 : Nat → Bool → ByteArray → Int → Int → Int → Int → List (S122) → List (S122) → List Int → ByteArray → ByteArray → Int → Option (Int × Int × (List (S122)) × (List (S122)) × List Int × ByteArray × Bool)
 | 0, _, _, _, _, _, _, _, _, _, _, _, _ => none
 | k + 1, x2, x3, x11, x12, x495000, x495001, x495002, x495003, x495004, x499000, x499001, x499002 => if x11 < 0 then (spec_l10Touch.j2 k x2 x3 x11 x12 (decide (x12 < 0)) x495000 x495001 x495002 x495003 x495004 x499000 x499001 x499002) else (spec_l10Touch.j2 k x2 x3 x11 x12 false x495000 x495001 x495002 x495003 x495004 x499000 x499001 x499002)
def spec_l10Touch.j2 : Nat → Bool → ByteArray → Int → Int → Bool → Int → Int → List (S122) → List (S122) → List Int → ByteArray → ByteArray → Int → Option (Int × Int × (List (S122)) × (List (S122)) × List Int × ByteArray × Bool)
 | 0, _, _, _, _, _, _, _, _, _, _, _, _, _ => none
 | k + 1, x2, x3, x11, x12, x42, x495000, x495001, x495002, x495003, x495004, x499000, x499001, x499002 => if x42 = true then (some (x495000, x495001, x495002, x495003, x495004, (⟨#[]⟩ : ByteArray), false)) else ((spec_l10More.f x499002).bind fun t501 => (if x2 = true then (if x11 ≥ 0 then (if 0 ≤ x11 then (if x11 < (x495002.length : Int) then (some (x495000, x495001, (x495002.set (x11 : Int).toNat (⟨x499000, x3, t501⟩ : S122)), x495003, x495004, x3, true)) else (none)) else (none)) else (if 0 ≤ x12 then (if x12 < (x495003.length : Int) then (some (x495000, x495001, x495002, (x495003.set (x12 : Int).toNat (⟨x499000, x3, t501⟩ : S122)), x495004, x3, true)) else (none)) else (none))) else (if x11 ≥ 0 then (if 0 ≤ x11 then (if x11 < (x495002.length : Int) then (some (x495000, x495001, (x495002.set (x11 : Int).toNat (⟨x499000, x499001, t501⟩ : S122)), x495003, x495004, x499001, true)) else (none)) else (none)) else (if 0 ≤ x12 then (if x12 < (x495003.length : Int) then (some (x495000, x495001, x495002, (x495003.set (x12 : Int).toNat (⟨x499000, x499001, t501⟩ : S122)), x495004, x499001, true)) else (none)) else (none)))))
end
def spec_l10Touch.f (k : Nat) (a0_0 : Int) (a0_1 : Int) (l0_2 : List (S122)) (l0_3 : List (S122)) (l0_4 : List Int) (a1 : ByteArray) (a2 : Bool) (a3 : ByteArray) : Option (Int × Int × (List (S122)) × (List (S122)) × List Int × ByteArray × Bool) := (spec_l10At.f k l0_2 a1).bind fun t496 => ((spec_l10At.f k l0_3 a1).bind fun t497 => (if t496 ≥ 0 then (if 0 ≤ t496 then (if t496 < (l0_2.length : Int) then (spec_l10Touch.j0 k a2 a3 t496 t497 a0_0 a0_1 l0_2 l0_3 l0_4 ((rd_T122 l0_2 t496).f0) ((rd_T122 l0_2 t496).f1) ((rd_T122 l0_2 t496).f2)) else (none)) else (none)) else (spec_l10Touch.j0 k a2 a3 t496 t497 a0_0 a0_1 l0_2 l0_3 l0_4 (⟨#[]⟩ : ByteArray) (⟨#[]⟩ : ByteArray) 0)))
def spec_l10Touch.T16 : Bool × List (List Nat × List Nat) := (true, [([], []), ([], []), ([1], [1]), ([0, 0], [0]), ([2, 3, 0, 1, 2, 3], [2]), ([4, 0, 1, 2, 3, 4], [])])
def spec_l10Touch.B16 : List Nat := [0, 0, 2, 1, 15, 31]
theorem spec_l10Touch.tab16 : rtab .any (opsOf Try.f194 16) = spec_l10Touch.T16 := by kernel_rfl
theorem spec_l10Touch.bits16 : waitsOk spec_l10Touch.T16.2 spec_l10Touch.B16 = true := by kernel_rfl
theorem spec_l10Touch.calls (k : Nat) (a0_0 : Int) (a0_1 : Int) (u9000_ : Value) (l0_2 : List (S122)) (u9001_ : Value) (l0_3 : List (S122)) (u9002_ : Value) (l0_4 : List Int) (a1 : ByteArray) (a2 : Bool) (a3 : ByteArray) (r1 : Int) (r2 : Int) (r3 : List (S122)) (r4 : List (S122)) (r5 : List Int) (r6 : ByteArray) (r7 : Bool) (w0 w : World) (F : List SP)  (hM : Mem w0 F w [rowR k122 122 u9000_ l0_2, rowR k122 122 u9001_ l0_3, rowR (Kd.int .i64) 3 u9002_ l0_4]) (h : spec_l10Touch.f k a0_0 a0_1 l0_2 l0_3 l0_4 a1 a2 a3 = some (r1, r2, r3, r4, r5, r6, r7)) :
  Calls Try.prog 194 #[.agg #[.int .i64 a0_0, .int .i64 a0_1, u9000_, u9001_, u9002_], .string a1, .bool a2, .string a3] w fun e w' => ∃ v2_ v3_ v4_ : Value, e = .returned (.tuple #[.agg #[.int .i64 r1, .int .i64 r2, v2_, v3_, v4_], .string r6, .bool r7]) ∧ Mem w0 F w' [rowR k122 122 v2_ r3, rowR k122 122 v3_ r4, rowR (Kd.int .i64) 3 v4_ r5] := by
 have hu32 := Try.underlying32
 have hu122 := Try.underlying122
 have HM := hM
 clear hM
 have H := h
 clear h
 unfold spec_l10Touch.f at H
 go_enter Try.func194, Try.ntmps194
 replace H := BN H; obtain ⟨t496, A11, H⟩ := H
 replace H := BN H; obtain ⟨t497, A14, H⟩ := H
 have HC18 := Aside0.mk H
 clear H
 obtain ⟨Xo5, ko5, rfl⟩ := HM.rdR 0 rfl
 obtain ⟨Xo6, ko6, rfl⟩ := HM.rdR 1 rfl
 obtain ⟨Xo7, ko7, rfl⟩ := HM.rdR 2 rfl
 go_upto_if 24 with (first | ((with_reducible refine gN 4 rfl ?_); refine pB 4 32 [.int .i64 a0_0, .int .i64 a0_1, .slice Xo5 l0_2.length ko5, .slice Xo6 l0_3.length ko6, .slice Xo7 l0_4.length ko7] HM rfl ?_; clear HM; intro gb494 w8 HM) | ((with_reducible refine gN 8 rfl ?_); refine pB 8 32 [.int .i64 0, .int .i64 0, .slice none 0 0, .slice none 0 0, .slice none 0 0] HM rfl ?_; clear HM; intro gb495 w9 HM; obtain ⟨_,_,_,_,_,_,_,_,_,_⟩ := bk5 (HM.bx 3 rfl)) | ((with_reducible refine gC 187 rfl ?_); refine pC (some 17) rfl #[.slice Xo5 l0_2.length ko5, .string a1] rfl Try.func187 (spec_l10At.calls k _ _ l0_2 a1 t496 _ (HM.CR 0 rfl).2.2 (HM.CR 0 rfl).2.1 A11.out) ?_; rintro e w12 ⟨rfl, hR⟩; refine ⟨_, rfl, ?_⟩; replace HM := HM.call hR; clear hR; obtain ⟨_,_,_,_,_,_,_,_,_,_⟩ := bk5 (HM.bx 3 rfl)) | ((with_reducible refine gC 187 rfl ?_); refine pC (some 21) rfl #[.slice Xo6 l0_3.length ko6, .string a1] rfl Try.func187 (spec_l10At.calls k _ _ l0_3 a1 t497 _ (HM.CR 1 rfl).2.2 (HM.CR 1 rfl).2.1 A14.out) ?_; rintro e w15 ⟨rfl, hR⟩; refine ⟨_, rfl, ?_⟩; replace HM := HM.call hR; clear hR) | ((with_reducible refine gN 13 rfl ?_); refine pB 13 122 [.string (⟨#[]⟩ : ByteArray), .string (⟨#[]⟩ : ByteArray), .int .i64 0] HM rfl ?_; clear HM; intro gb498 w16 HM) | ((with_reducible refine gS 13 rfl ?_); refine pS 5 13 0 [.string (⟨#[]⟩ : ByteArray), .string (⟨#[]⟩ : ByteArray), .int .i64 0] HM rfl rfl ?_; clear HM; intro w17 HM))
 replace HM := nzM HM
 try simp only [Act.put, List.setIfInBounds_toArray, List.set_cons_zero, List.set_cons_succ]
 go_cut [] (fun wc => ∃ (kq : Nat) (x499000_17 : ByteArray) (x499001_17 : ByteArray) (x499002_17 : Int), Aside0 (spec_l10Touch.j0 kq a2 a3 t496 t497 a0_0 a0_1 l0_2 l0_3 l0_4 x499000_17 x499001_17 x499002_17 = some (r1, r2, r3, r4, r5, r6, r7)) ∧ Aside0 (kq ≤ k) ∧ Mem w0 F wc [rowR k122 122 (.slice Xo5 l0_2.length ko5) l0_2, rowR k122 122 (.slice Xo6 l0_3.length ko6) l0_3, rowR (Kd.int .i64) 3 (.slice Xo7 l0_4.length ko7) l0_4, box 32 gb494 [.int .i64 a0_0, .int .i64 a0_1, (.slice Xo5 l0_2.length ko5), (.slice Xo6 l0_3.length ko6), (.slice Xo7 l0_4.length ko7)], box 32 gb495 [.int .i64 0, .int .i64 0, .slice none 0 0, .slice none 0 0, .slice none 0 0], box 122 gb498 [.string x499000_17, .string x499001_17, .int .i64 x499002_17]])
 case first =>
  have H := HC18.out
  clear HC18
  go_upto_if 24 with (fail)
  replace H := IT H; rcases H with ⟨c19, H⟩ | ⟨c19, H⟩
  ·have c19b0 : decide (0 ≤ t496) = true := decide_eq_true c19
   clear c19
   first|rw [c19b0]|(simp only [i64_w, i32_w]; rw [c19b0])|skip
   replace H := GD H; obtain ⟨c21, H⟩ := H
   have c21b0 := decide_eq_true c21
   clear c21
   replace H := GD H; obtain ⟨c22, H⟩ := H
   have c22b0 := decide_eq_true c22
   clear c22
   have H' := Aside0.mk H
   clear H
   obtain ⟨_,_,_,_,_,_,_,_,_,_⟩ := bk5 (HM.bx 3 rfl)
   have p499 : 0 ≤ (t496 : Int) := of_decide_eq_true AS
   have q499 : (t496 : Int) < (l0_2.length : Int) := of_decide_eq_true AS
   obtain ⟨ad499, e499, hx499_0, hx499_1, hx499_2⟩ := at_T122 (HM.CR 0 rfl).2.2 t496 p499 q499
   cases e499
   replace p499 := eq_true p499
   replace q499 := eq_true q499
   go_wp2_with (first | ((with_reducible refine gS 13 rfl ?_); refine pS 5 13 0 [.string ((rd_T122 l0_2 t496).f0), .string ((rd_T122 l0_2 t496).f1), .int .i64 ((rd_T122 l0_2 t496).f2)] HM rfl rfl ?_; clear HM; intro w23 HM))
   go_meet
   case rel => exact ⟨_, ((rd_T122 l0_2 t496).f0), ((rd_T122 l0_2 t496).f1), ((rd_T122 l0_2 t496).f2), H', ⟨by first | omega | exact Nat.le_refl _⟩, (MD HM).pick [0, 1, 2, 3, 4, 5]⟩
  ·have c19b0 : decide (0 ≤ t496) = false := decide_eq_false c19
   clear c19
   first|rw [c19b0]|(simp only [i64_w, i32_w]; rw [c19b0])|skip
   have H' := Aside0.mk H
   clear H
   go_wp2
   go_meet
   case rel => exact ⟨_, ((⟨#[]⟩ : ByteArray)), ((⟨#[]⟩ : ByteArray)), (0), H', ⟨by first | omega | exact Nat.le_refl _⟩, (MD HM).pick [0, 1, 2, 3, 4, 5]⟩
 case rest =>
  clear HC18 HM
  obtain ⟨kq, x499000_17, x499001_17, x499002_17, HA, HJ17, HM⟩ := hcut
  cases kq with
  | zero => exact absurd HA.out (by simp [spec_l10Touch.j0])
  | succ kj17 =>
   have H := HA.out
   clear HA
   simp only [spec_l10Touch.j0] at H
   have HC24 := Aside0.mk H
   clear H
   go_upto_if 31 with (fail)
   go_cut [] (fun wc => ∃ (kq : Nat) (x499000_23 : ByteArray) (x499001_23 : ByteArray) (x499002_23 : Int), Aside0 (spec_l10Touch.j1 kq a2 a3 t496 t497 a0_0 a0_1 l0_2 l0_3 l0_4 x499000_23 x499001_23 x499002_23 = some (r1, r2, r3, r4, r5, r6, r7)) ∧ Aside0 (kq ≤ kj17) ∧ Mem w0 F wc [rowR k122 122 (.slice Xo5 l0_2.length ko5) l0_2, rowR k122 122 (.slice Xo6 l0_3.length ko6) l0_3, rowR (Kd.int .i64) 3 (.slice Xo7 l0_4.length ko7) l0_4, box 32 gb494 [.int .i64 a0_0, .int .i64 a0_1, (.slice Xo5 l0_2.length ko5), (.slice Xo6 l0_3.length ko6), (.slice Xo7 l0_4.length ko7)], box 32 gb495 [.int .i64 0, .int .i64 0, .slice none 0 0, .slice none 0 0, .slice none 0 0], box 122 gb498 [.string x499000_23, .string x499001_23, .int .i64 x499002_23]])
   case first =>
    have H := HC24.out
    clear HC24
    go_upto_if 31 with (fail)
    replace H := IT H; rcases H with ⟨c25, H⟩ | ⟨c25, H⟩
    ·have c25b0 : decide (0 ≤ t497) = true := decide_eq_true c25
     clear c25
     first|rw [c25b0]|(simp only [i64_w, i32_w]; rw [c25b0])|skip
     replace H := GD H; obtain ⟨c27, H⟩ := H
     have c27b0 := decide_eq_true c27
     clear c27
     replace H := GD H; obtain ⟨c28, H⟩ := H
     have c28b0 := decide_eq_true c28
     clear c28
     have H' := Aside0.mk H
     clear H
     obtain ⟨_,_,_,_,_,_,_,_,_,_⟩ := bk5 (HM.bx 3 rfl)
     have p500 : 0 ≤ (t497 : Int) := of_decide_eq_true AS
     have q500 : (t497 : Int) < (l0_3.length : Int) := of_decide_eq_true AS
     obtain ⟨ad500, e500, hx500_0, hx500_1, hx500_2⟩ := at_T122 (HM.CR 1 rfl).2.2 t497 p500 q500
     cases e500
     replace p500 := eq_true p500
     replace q500 := eq_true q500
     go_wp2_with (first | ((with_reducible refine gS 13 rfl ?_); refine pS 5 13 0 [.string ((rd_T122 l0_3 t497).f0), .string ((rd_T122 l0_3 t497).f1), .int .i64 ((rd_T122 l0_3 t497).f2)] HM rfl rfl ?_; clear HM; intro w29 HM))
     go_meet
     case rel => exact ⟨_, ((rd_T122 l0_3 t497).f0), ((rd_T122 l0_3 t497).f1), ((rd_T122 l0_3 t497).f2), H', ⟨by have := HJ17.out; first | omega | exact Nat.le_refl _⟩, (MD HM).pick [0, 1, 2, 3, 4, 5]⟩
    ·have c25b0 : decide (0 ≤ t497) = false := decide_eq_false c25
     clear c25
     first|rw [c25b0]|(simp only [i64_w, i32_w]; rw [c25b0])|skip
     have H' := Aside0.mk H
     clear H
     go_wp2
     go_meet
     case rel => exact ⟨_, (x499000_17), (x499001_17), (x499002_17), H', ⟨by have := HJ17.out; first | omega | exact Nat.le_refl _⟩, (MD HM).pick [0, 1, 2, 3, 4, 5]⟩
   case rest =>
    clear HC24 HM
    obtain ⟨kq, x499000_23, x499001_23, x499002_23, HA, HJ23, HM⟩ := hcut
    cases kq with
    | zero => exact absurd HA.out (by simp [spec_l10Touch.j1])
    | succ kj23 =>
     have H := HA.out
     clear HA
     simp only [spec_l10Touch.j1] at H
     have HC30 := Aside0.mk H
     clear H
     go_upto_region 8 with (fail)
     go_cut [42] (fun v42 wc => ∃ (kq : Nat) (x42_29 : Bool), v42 = .bool x42_29 ∧ Aside0 (spec_l10Touch.j2 kq a2 a3 t496 t497 x42_29 a0_0 a0_1 l0_2 l0_3 l0_4 x499000_23 x499001_23 x499002_23 = some (r1, r2, r3, r4, r5, r6, r7)) ∧ Aside0 (kq ≤ kj23) ∧ Mem w0 F wc [rowR k122 122 (.slice Xo5 l0_2.length ko5) l0_2, rowR k122 122 (.slice Xo6 l0_3.length ko6) l0_3, rowR (Kd.int .i64) 3 (.slice Xo7 l0_4.length ko7) l0_4, box 32 gb494 [.int .i64 a0_0, .int .i64 a0_1, (.slice Xo5 l0_2.length ko5), (.slice Xo6 l0_3.length ko6), (.slice Xo7 l0_4.length ko7)], box 32 gb495 [.int .i64 0, .int .i64 0, .slice none 0 0, .slice none 0 0, .slice none 0 0], box 122 gb498 [.string x499000_23, .string x499001_23, .int .i64 x499002_23]])
     case first =>
      have H := HC30.out
      clear HC30
      replace H := IT H; rcases H with ⟨c31, H⟩ | ⟨c31, H⟩
      ·have c31b0 := decide_eq_true c31
       clear c31
       have H' := Aside0.mk H
       clear H
       go_wp2
       go_meet
       case rel => exact ⟨_, (decide (t497 < 0)), RS, H', ⟨by have := HJ17.out; have := HJ23.out; first | omega | exact Nat.le_refl _⟩, (MD HM).pick [0, 1, 2, 3, 4, 5]⟩
      ·have c31b0 := decide_eq_false c31
       clear c31
       have H' := Aside0.mk H
       clear H
       go_wp2
       go_meet
       case rel => exact ⟨_, (false), RS, H', ⟨by have := HJ17.out; have := HJ23.out; first | omega | exact Nat.le_refl _⟩, (MD HM).pick [0, 1, 2, 3, 4, 5]⟩
     case rest =>
      clear HC30 HM
      obtain ⟨kq, x42_29, rfl, HA, HJ29, HM⟩ := hcut
      cases kq with
      | zero => exact absurd HA.out (by simp [spec_l10Touch.j2])
      | succ kj29 =>
       have H := HA.out
       clear HA
       simp only [spec_l10Touch.j2] at H
       go_upto_if 42 with (fail)
       replace H := IB H
       rcases H with ⟨c32, H⟩ | ⟨c32, H⟩
       ·subst c32
        simp only [Option.some.injEq, Prod.mk.injEq] at H
        obtain ⟨rfl, rfl, rfl, rfl, rfl, rfl, rfl⟩ := H
        obtain ⟨_,_,_,_,_,_,_,_,_,_⟩ := bk5 (HM.bx 3 rfl)
        go_wp2_with (first | ((with_reducible refine gS 8 rfl ?_); refine pS 4 8 0 [.int .i64 a0_0, .int .i64 a0_1, .slice Xo5 l0_2.length ko5, .slice Xo6 l0_3.length ko6, .slice Xo7 l0_4.length ko7] HM rfl rfl ?_; clear HM; intro w34 HM))
        refine bodyPost_ret (results_ctt rfl _ _ gb495 32 #[.int .i64 a0_0, .int .i64 a0_1, .slice Xo5 l0_2.length ko5, .slice Xo6 l0_3.length ko6, .slice Xo7 l0_4.length ko7] (0, 0) _ rfl (HM.bx 4 rfl) Try.underlying32 rfl (by kernel_rfl)) rfl ?_
        exact ⟨_, _, _, ER, (MD HM).pick [0, 1, 2]⟩
       ·subst c32
        replace H := BN H; obtain ⟨t501, A36, H⟩ := H
        obtain ⟨_,_,_,_,_,_⟩ := bk3 (HM.bx 5 rfl)
        go_upto_if 48 with (first | ((with_reducible refine gC 206 rfl ?_); refine pC (some 46) rfl #[.int .i64 x499002_23] rfl Try.func206 (spec_l10More.calls x499002_23 t501 _ A36.out) ?_; rintro e w37 ⟨rfl, hd⟩; refine ⟨_, rfl, ?_⟩; replace HM := HM.drawn hd; clear hd) | ((with_reducible refine gS 47 rfl ?_); refine pS 5 47 2 [.int .i64 t501] HM rfl rfl ?_; clear HM; intro w38 HM))
        replace H := IB H
        rcases H with ⟨c39, H⟩ | ⟨c39, H⟩
        ·subst c39
         go_upto_if 52 with (first | ((with_reducible refine gS 50 rfl ?_); refine pS 5 50 1 [.string a3] HM rfl rfl ?_; clear HM; intro w40 HM))
         replace H := IT H; rcases H with ⟨c41, H⟩ | ⟨c41, H⟩
         ·have c41b0 : decide (0 ≤ t496) = true := decide_eq_true c41
          clear c41
          first|rw [c41b0]|(simp only [i64_w, i32_w]; rw [c41b0])|skip
          replace H := GD H; obtain ⟨c44, H⟩ := H
          have c44b0 := decide_eq_true c44
          clear c44
          replace H := GD H; obtain ⟨c45, H⟩ := H
          have c45b0 := decide_eq_true c45
          clear c45
          obtain ⟨_,_,_,_,_,_,_,_,_,_⟩ := bk5 (HM.bx 3 rfl)
          obtain ⟨_,_,_,_,_,_⟩ := bk3 (HM.bx 5 rfl)
          have p46 : 0 ≤ (t496 : Int) := of_decide_eq_true AS
          have q46 : (t496 : Int) < ((l0_2.length : Int) : Int) := of_decide_eq_true AS
          obtain ⟨go46, ef46⟩ := HM.form 0 rfl (by have h_ := (HM.CR 0 rfl).1; omega)
          subst ef46
          obtain ⟨hx46_0, hx46_1, hx46_2, hf46_0, hf46_1, hf46_2⟩ := HM.el3 0 rfl z122 (t496 : Int) p46 (by have h_ := (HM.CR 0 rfl).1; omega) (.string ((rd_T122 l0_2 t496).f0)) (.string ((rd_T122 l0_2 t496).f1)) (.int .i64 ((rd_T122 l0_2 t496).f2)) (fun _ _ h => k122_openM h)
          replace p46 := eq_true p46
          replace q46 := eq_true q46
          try go_wp2_with (first | ((with_reducible refine gS 57 rfl ?_); refine pPR 0 57 (t496 : Int) 0 [.string x499000_23, .string a3, .int .i64 t501] k122 122 l0_2 (⟨x499000_23, a3, t501⟩ : S122) z122 [.string ((rd_T122 l0_2 t496).f0), .string ((rd_T122 l0_2 t496).f1), .int .i64 ((rd_T122 l0_2 t496).f2)] HM rfl rfl (of_decide_eq_true AS) (by have h_ : (t496 : Int) < ((l0_2.length : Int) : Int) := of_decide_eq_true AS; have e_ := (HM.CR 0 rfl).1; omega) (fun _ _ h => k122_openM h) (k122_mkM _ _ _ (⟨x499000_23, a3, t501⟩ : S122)) ?_; clear HM; intro w47 HM))
          refine RGN 6 [0, 1, 2, 3, 4, 5] (fun a0 b a w' => a = putSel a0 b [(0, 63, .agg #[.int .i64 a0_0, .int .i64 a0_1, .slice (some ⟨go46, 0, none⟩) l0_2.length ko5, .slice Xo6 l0_3.length ko6, .slice Xo7 l0_4.length ko7]), (1, 64, .pointer (some ⟨gb498, 1, none⟩)), (2, 65, .string a3), (4, 9, .string a3), (5, 10, .bool true)] ∧ Mem w0 F w' [rowR k122 122 (.slice (some ⟨go46, 0, none⟩) l0_2.length ko5) (l0_2.set (t496 : Int).toNat (⟨x499000_23, a3, t501⟩ : S122)), rowR k122 122 (.slice Xo6 l0_3.length ko6) l0_3, rowR (Kd.int .i64) 3 (.slice Xo7 l0_4.length ko7) l0_4, box 32 gb494 [.int .i64 a0_0, .int .i64 a0_1, .slice (some ⟨go46, 0, none⟩) l0_2.length ko5, .slice Xo6 l0_3.length ko6, .slice Xo7 l0_4.length ko7], sel (b 3) (box 32 gb495 [.int .i64 a0_0, .int .i64 a0_1, .slice (some ⟨go46, 0, none⟩) l0_2.length ko5, .slice Xo6 l0_3.length ko6, .slice Xo7 l0_4.length ko7]) (box 32 gb495 [.int .i64 0, .int .i64 0, .slice none 0 0, .slice none 0 0, .slice none 0 0]), box 122 gb498 [.string x499000_23, .string a3, .int .i64 t501]]) spec_l10Touch.tab16 spec_l10Touch.bits16 ?_ ?_ ?_
          ·exact ⟨PS0' rfl _, (HM.drew).pick [0, 1, 2, 3, 4, 5]⟩
          ·clear HM
           refine SY ?_ ?_
           ·intro b a w ha HM hb hon hoff K hK
            obtain ⟨_,_,_,_,_,_,_,_,_,_⟩ := bk5 (HM.bx 3 rfl)
            have e4 := PG ha 4
            exact VL (.agg #[.int .i64 a0_0, .int .i64 a0_1, .slice (some ⟨go46, 0, none⟩) l0_2.length ko5, .slice Xo6 l0_3.length ko6, .slice Xo7 l0_4.length ko7]) (hK.out _ _ ⟨PUT ha 0 hb, HM⟩)
           refine SY ?_ ?_
           ·intro b a w ha HM hb hon hoff K hK
            have e13 := PG ha 13
            exact VL (.pointer (some ⟨gb498, 1, none⟩)) (hK.out _ _ ⟨PUT ha 1 hb, HM⟩)
           refine SY ?_ ?_
           ·intro b a w ha HM hb hon hoff K hK
            obtain ⟨_,_,_,_,_,_⟩ := bk3 (HM.bx 5 rfl)
            have e64 := PE ha 1 hon
            exact VL (.string a3) (hK.out _ _ ⟨PUT ha 2 hb, HM⟩)
           refine SY ?_ ?_
           ·intro b a w ha HM hb hon hoff K hK
            replace HM := HM.sF 4 rfl hb
            have e8 := PG ha 8
            have e63 := PE ha 0 hon
            refine ST (eS 4 8 0 [.int .i64 a0_0, .int .i64 a0_1, .slice (some ⟨go46, 0, none⟩) l0_2.length ko5, .slice Xo6 l0_3.length ko6, .slice Xo7 l0_4.length ko7] HM rfl rfl ?_ (hp := (eval_of e8)) (hx := (by rw [eval_of e63]; rfl)))
            clear HM
            intro w53 HM
            exact hK.out _ _ ⟨PUS ha, (HM).pick [0, 1, 2, 3, 4, 5]⟩
           refine SY ?_ ?_
           ·intro b a w ha HM hb hon hoff K hK
            have e65 := PE ha 2 hon
            exact VL (.string a3) (hK.out _ _ ⟨PUT ha 3 hb, HM⟩)
           refine SY ?_ ?_
           ·intro b a w ha HM hb hon hoff K hK
            exact VL (.bool true) (hK.out _ _ ⟨PUT ha 4 hb, HM⟩)
           exact steps_nil
          rintro _ w54 ⟨rfl, HM⟩
          replace HM := HM.sT 4 rfl rfl
          simp only [putSel, if_true, Act.put, List.setIfInBounds_toArray, List.set_cons_zero, List.set_cons_succ, gt_iff_lt, ge_iff_le]
          simp only [Option.some.injEq, Prod.mk.injEq] at H
          obtain ⟨rfl, rfl, rfl, rfl, rfl, rfl, rfl⟩ := H
          go_wp2
          refine bodyPost_ret (results_ctt rfl _ _ gb495 32 #[.int .i64 a0_0, .int .i64 a0_1, .slice (some ⟨go46, 0, none⟩) l0_2.length ko5, .slice Xo6 l0_3.length ko6, .slice Xo7 l0_4.length ko7] (0, 0) _ rfl (HM.bx 4 rfl) Try.underlying32 rfl (by kernel_rfl)) rfl ?_
          exact ⟨_, _, _, ER, (MD HM).pick [0, 1, 2]⟩
         ·have c41b0 : decide (0 ≤ t496) = false := decide_eq_false c41
          clear c41
          first|rw [c41b0]|(simp only [i64_w, i32_w]; rw [c41b0])|skip
          replace H := GD H; obtain ⟨c57, H⟩ := H
          have c57b0 := decide_eq_true c57
          clear c57
          replace H := GD H; obtain ⟨c58, H⟩ := H
          have c58b0 := decide_eq_true c58
          clear c58
          obtain ⟨_,_,_,_,_,_,_,_,_,_⟩ := bk5 (HM.bx 3 rfl)
          obtain ⟨_,_,_,_,_,_⟩ := bk3 (HM.bx 5 rfl)
          have p59 : 0 ≤ (t497 : Int) := of_decide_eq_true AS
          have q59 : (t497 : Int) < ((l0_3.length : Int) : Int) := of_decide_eq_true AS
          obtain ⟨go59, ef59⟩ := HM.form 1 rfl (by have h_ := (HM.CR 1 rfl).1; omega)
          subst ef59
          obtain ⟨hx59_0, hx59_1, hx59_2, hf59_0, hf59_1, hf59_2⟩ := HM.el3 1 rfl z122 (t497 : Int) p59 (by have h_ := (HM.CR 1 rfl).1; omega) (.string ((rd_T122 l0_3 t497).f0)) (.string ((rd_T122 l0_3 t497).f1)) (.int .i64 ((rd_T122 l0_3 t497).f2)) (fun _ _ h => k122_openM h)
          replace p59 := eq_true p59
          replace q59 := eq_true q59
          try go_wp2_with (first | ((with_reducible refine gS 62 rfl ?_); refine pPR 1 62 (t497 : Int) 0 [.string x499000_23, .string a3, .int .i64 t501] k122 122 l0_3 (⟨x499000_23, a3, t501⟩ : S122) z122 [.string ((rd_T122 l0_3 t497).f0), .string ((rd_T122 l0_3 t497).f1), .int .i64 ((rd_T122 l0_3 t497).f2)] HM rfl rfl (of_decide_eq_true AS) (by have h_ : (t497 : Int) < ((l0_3.length : Int) : Int) := of_decide_eq_true AS; have e_ := (HM.CR 1 rfl).1; omega) (fun _ _ h => k122_openM h) (k122_mkM _ _ _ (⟨x499000_23, a3, t501⟩ : S122)) ?_; clear HM; intro w60 HM))
          refine RGN 6 [0, 1, 2, 3, 4, 5] (fun a0 b a w' => a = putSel a0 b [(0, 63, .agg #[.int .i64 a0_0, .int .i64 a0_1, .slice Xo5 l0_2.length ko5, .slice (some ⟨go59, 0, none⟩) l0_3.length ko6, .slice Xo7 l0_4.length ko7]), (1, 64, .pointer (some ⟨gb498, 1, none⟩)), (2, 65, .string a3), (4, 9, .string a3), (5, 10, .bool true)] ∧ Mem w0 F w' [rowR k122 122 (.slice Xo5 l0_2.length ko5) l0_2, rowR k122 122 (.slice (some ⟨go59, 0, none⟩) l0_3.length ko6) (l0_3.set (t497 : Int).toNat (⟨x499000_23, a3, t501⟩ : S122)), rowR (Kd.int .i64) 3 (.slice Xo7 l0_4.length ko7) l0_4, box 32 gb494 [.int .i64 a0_0, .int .i64 a0_1, .slice Xo5 l0_2.length ko5, .slice (some ⟨go59, 0, none⟩) l0_3.length ko6, .slice Xo7 l0_4.length ko7], sel (b 3) (box 32 gb495 [.int .i64 a0_0, .int .i64 a0_1, .slice Xo5 l0_2.length ko5, .slice (some ⟨go59, 0, none⟩) l0_3.length ko6, .slice Xo7 l0_4.length ko7]) (box 32 gb495 [.int .i64 0, .int .i64 0, .slice none 0 0, .slice none 0 0, .slice none 0 0]), box 122 gb498 [.string x499000_23, .string a3, .int .i64 t501]]) spec_l10Touch.tab16 spec_l10Touch.bits16 ?_ ?_ ?_
          ·exact ⟨PS0' rfl _, (HM.drew).pick [0, 1, 2, 3, 4, 5]⟩
          ·clear HM
           refine SY ?_ ?_
           ·intro b a w ha HM hb hon hoff K hK
            obtain ⟨_,_,_,_,_,_,_,_,_,_⟩ := bk5 (HM.bx 3 rfl)
            have e4 := PG ha 4
            exact VL (.agg #[.int .i64 a0_0, .int .i64 a0_1, .slice Xo5 l0_2.length ko5, .slice (some ⟨go59, 0, none⟩) l0_3.length ko6, .slice Xo7 l0_4.length ko7]) (hK.out _ _ ⟨PUT ha 0 hb, HM⟩)
           refine SY ?_ ?_
           ·intro b a w ha HM hb hon hoff K hK
            have e13 := PG ha 13
            exact VL (.pointer (some ⟨gb498, 1, none⟩)) (hK.out _ _ ⟨PUT ha 1 hb, HM⟩)
           refine SY ?_ ?_
           ·intro b a w ha HM hb hon hoff K hK
            obtain ⟨_,_,_,_,_,_⟩ := bk3 (HM.bx 5 rfl)
            have e64 := PE ha 1 hon
            exact VL (.string a3) (hK.out _ _ ⟨PUT ha 2 hb, HM⟩)
           refine SY ?_ ?_
           ·intro b a w ha HM hb hon hoff K hK
            replace HM := HM.sF 4 rfl hb
            have e8 := PG ha 8
            have e63 := PE ha 0 hon
            refine ST (eS 4 8 0 [.int .i64 a0_0, .int .i64 a0_1, .slice Xo5 l0_2.length ko5, .slice (some ⟨go59, 0, none⟩) l0_3.length ko6, .slice Xo7 l0_4.length ko7] HM rfl rfl ?_ (hp := (eval_of e8)) (hx := (by rw [eval_of e63]; rfl)))
            clear HM
            intro w66 HM
            exact hK.out _ _ ⟨PUS ha, (HM).pick [0, 1, 2, 3, 4, 5]⟩
           refine SY ?_ ?_
           ·intro b a w ha HM hb hon hoff K hK
            have e65 := PE ha 2 hon
            exact VL (.string a3) (hK.out _ _ ⟨PUT ha 3 hb, HM⟩)
           refine SY ?_ ?_
           ·intro b a w ha HM hb hon hoff K hK
            exact VL (.bool true) (hK.out _ _ ⟨PUT ha 4 hb, HM⟩)
           exact steps_nil
          rintro _ w67 ⟨rfl, HM⟩
          replace HM := HM.sT 4 rfl rfl
          simp only [putSel, if_true, Act.put, List.setIfInBounds_toArray, List.set_cons_zero, List.set_cons_succ, gt_iff_lt, ge_iff_le]
          simp only [Option.some.injEq, Prod.mk.injEq] at H
          obtain ⟨rfl, rfl, rfl, rfl, rfl, rfl, rfl⟩ := H
          go_wp2
          refine bodyPost_ret (results_ctt rfl _ _ gb495 32 #[.int .i64 a0_0, .int .i64 a0_1, .slice Xo5 l0_2.length ko5, .slice (some ⟨go59, 0, none⟩) l0_3.length ko6, .slice Xo7 l0_4.length ko7] (0, 0) _ rfl (HM.bx 4 rfl) Try.underlying32 rfl (by kernel_rfl)) rfl ?_
          exact ⟨_, _, _, ER, (MD HM).pick [0, 1, 2]⟩
        ·subst c39
         go_upto_if 52 with (fail)
         replace H := IT H; rcases H with ⟨c68, H⟩ | ⟨c68, H⟩
         ·have c68b0 : decide (0 ≤ t496) = true := decide_eq_true c68
          clear c68
          first|rw [c68b0]|(simp only [i64_w, i32_w]; rw [c68b0])|skip
          replace H := GD H; obtain ⟨c71, H⟩ := H
          have c71b0 := decide_eq_true c71
          clear c71
          replace H := GD H; obtain ⟨c72, H⟩ := H
          have c72b0 := decide_eq_true c72
          clear c72
          obtain ⟨_,_,_,_,_,_,_,_,_,_⟩ := bk5 (HM.bx 3 rfl)
          obtain ⟨_,_,_,_,_,_⟩ := bk3 (HM.bx 5 rfl)
          have p73 : 0 ≤ (t496 : Int) := of_decide_eq_true AS
          have q73 : (t496 : Int) < ((l0_2.length : Int) : Int) := of_decide_eq_true AS
          obtain ⟨go73, ef73⟩ := HM.form 0 rfl (by have h_ := (HM.CR 0 rfl).1; omega)
          subst ef73
          obtain ⟨hx73_0, hx73_1, hx73_2, hf73_0, hf73_1, hf73_2⟩ := HM.el3 0 rfl z122 (t496 : Int) p73 (by have h_ := (HM.CR 0 rfl).1; omega) (.string ((rd_T122 l0_2 t496).f0)) (.string ((rd_T122 l0_2 t496).f1)) (.int .i64 ((rd_T122 l0_2 t496).f2)) (fun _ _ h => k122_openM h)
          replace p73 := eq_true p73
          replace q73 := eq_true q73
          try go_wp2_with (first | ((with_reducible refine gS 57 rfl ?_); refine pPR 0 57 (t496 : Int) 0 [.string x499000_23, .string x499001_23, .int .i64 t501] k122 122 l0_2 (⟨x499000_23, x499001_23, t501⟩ : S122) z122 [.string ((rd_T122 l0_2 t496).f0), .string ((rd_T122 l0_2 t496).f1), .int .i64 ((rd_T122 l0_2 t496).f2)] HM rfl rfl (of_decide_eq_true AS) (by have h_ : (t496 : Int) < ((l0_2.length : Int) : Int) := of_decide_eq_true AS; have e_ := (HM.CR 0 rfl).1; omega) (fun _ _ h => k122_openM h) (k122_mkM _ _ _ (⟨x499000_23, x499001_23, t501⟩ : S122)) ?_; clear HM; intro w74 HM))
          refine RGN 6 [0, 1, 2, 3, 4, 5] (fun a0 b a w' => a = putSel a0 b [(0, 63, .agg #[.int .i64 a0_0, .int .i64 a0_1, .slice (some ⟨go73, 0, none⟩) l0_2.length ko5, .slice Xo6 l0_3.length ko6, .slice Xo7 l0_4.length ko7]), (1, 64, .pointer (some ⟨gb498, 1, none⟩)), (2, 65, .string x499001_23), (4, 9, .string x499001_23), (5, 10, .bool true)] ∧ Mem w0 F w' [rowR k122 122 (.slice (some ⟨go73, 0, none⟩) l0_2.length ko5) (l0_2.set (t496 : Int).toNat (⟨x499000_23, x499001_23, t501⟩ : S122)), rowR k122 122 (.slice Xo6 l0_3.length ko6) l0_3, rowR (Kd.int .i64) 3 (.slice Xo7 l0_4.length ko7) l0_4, box 32 gb494 [.int .i64 a0_0, .int .i64 a0_1, .slice (some ⟨go73, 0, none⟩) l0_2.length ko5, .slice Xo6 l0_3.length ko6, .slice Xo7 l0_4.length ko7], sel (b 3) (box 32 gb495 [.int .i64 a0_0, .int .i64 a0_1, .slice (some ⟨go73, 0, none⟩) l0_2.length ko5, .slice Xo6 l0_3.length ko6, .slice Xo7 l0_4.length ko7]) (box 32 gb495 [.int .i64 0, .int .i64 0, .slice none 0 0, .slice none 0 0, .slice none 0 0]), box 122 gb498 [.string x499000_23, .string x499001_23, .int .i64 t501]]) spec_l10Touch.tab16 spec_l10Touch.bits16 ?_ ?_ ?_
          ·exact ⟨PS0' rfl _, (HM.drew).pick [0, 1, 2, 3, 4, 5]⟩
          ·clear HM
           refine SY ?_ ?_
           ·intro b a w ha HM hb hon hoff K hK
            obtain ⟨_,_,_,_,_,_,_,_,_,_⟩ := bk5 (HM.bx 3 rfl)
            have e4 := PG ha 4
            exact VL (.agg #[.int .i64 a0_0, .int .i64 a0_1, .slice (some ⟨go73, 0, none⟩) l0_2.length ko5, .slice Xo6 l0_3.length ko6, .slice Xo7 l0_4.length ko7]) (hK.out _ _ ⟨PUT ha 0 hb, HM⟩)
           refine SY ?_ ?_
           ·intro b a w ha HM hb hon hoff K hK
            have e13 := PG ha 13
            exact VL (.pointer (some ⟨gb498, 1, none⟩)) (hK.out _ _ ⟨PUT ha 1 hb, HM⟩)
           refine SY ?_ ?_
           ·intro b a w ha HM hb hon hoff K hK
            obtain ⟨_,_,_,_,_,_⟩ := bk3 (HM.bx 5 rfl)
            have e64 := PE ha 1 hon
            exact VL (.string x499001_23) (hK.out _ _ ⟨PUT ha 2 hb, HM⟩)
           refine SY ?_ ?_
           ·intro b a w ha HM hb hon hoff K hK
            replace HM := HM.sF 4 rfl hb
            have e8 := PG ha 8
            have e63 := PE ha 0 hon
            refine ST (eS 4 8 0 [.int .i64 a0_0, .int .i64 a0_1, .slice (some ⟨go73, 0, none⟩) l0_2.length ko5, .slice Xo6 l0_3.length ko6, .slice Xo7 l0_4.length ko7] HM rfl rfl ?_ (hp := (eval_of e8)) (hx := (by rw [eval_of e63]; rfl)))
            clear HM
            intro w80 HM
            exact hK.out _ _ ⟨PUS ha, (HM).pick [0, 1, 2, 3, 4, 5]⟩
           refine SY ?_ ?_
           ·intro b a w ha HM hb hon hoff K hK
            have e65 := PE ha 2 hon
            exact VL (.string x499001_23) (hK.out _ _ ⟨PUT ha 3 hb, HM⟩)
           refine SY ?_ ?_
           ·intro b a w ha HM hb hon hoff K hK
            exact VL (.bool true) (hK.out _ _ ⟨PUT ha 4 hb, HM⟩)
           exact steps_nil
          rintro _ w81 ⟨rfl, HM⟩
          replace HM := HM.sT 4 rfl rfl
          simp only [putSel, if_true, Act.put, List.setIfInBounds_toArray, List.set_cons_zero, List.set_cons_succ, gt_iff_lt, ge_iff_le]
          simp only [Option.some.injEq, Prod.mk.injEq] at H
          obtain ⟨rfl, rfl, rfl, rfl, rfl, rfl, rfl⟩ := H
          go_wp2
          refine bodyPost_ret (results_ctt rfl _ _ gb495 32 #[.int .i64 a0_0, .int .i64 a0_1, .slice (some ⟨go73, 0, none⟩) l0_2.length ko5, .slice Xo6 l0_3.length ko6, .slice Xo7 l0_4.length ko7] (0, 0) _ rfl (HM.bx 4 rfl) Try.underlying32 rfl (by kernel_rfl)) rfl ?_
          exact ⟨_, _, _, ER, (MD HM).pick [0, 1, 2]⟩
         ·have c68b0 : decide (0 ≤ t496) = false := decide_eq_false c68
          clear c68
          first|rw [c68b0]|(simp only [i64_w, i32_w]; rw [c68b0])|skip
          replace H := GD H; obtain ⟨c84, H⟩ := H
          have c84b0 := decide_eq_true c84
          clear c84
          replace H := GD H; obtain ⟨c85, H⟩ := H
          have c85b0 := decide_eq_true c85
          clear c85
          obtain ⟨_,_,_,_,_,_,_,_,_,_⟩ := bk5 (HM.bx 3 rfl)
          obtain ⟨_,_,_,_,_,_⟩ := bk3 (HM.bx 5 rfl)
          have p86 : 0 ≤ (t497 : Int) := of_decide_eq_true AS
          have q86 : (t497 : Int) < ((l0_3.length : Int) : Int) := of_decide_eq_true AS
          obtain ⟨go86, ef86⟩ := HM.form 1 rfl (by have h_ := (HM.CR 1 rfl).1; omega)
          subst ef86
          obtain ⟨hx86_0, hx86_1, hx86_2, hf86_0, hf86_1, hf86_2⟩ := HM.el3 1 rfl z122 (t497 : Int) p86 (by have h_ := (HM.CR 1 rfl).1; omega) (.string ((rd_T122 l0_3 t497).f0)) (.string ((rd_T122 l0_3 t497).f1)) (.int .i64 ((rd_T122 l0_3 t497).f2)) (fun _ _ h => k122_openM h)
          replace p86 := eq_true p86
          replace q86 := eq_true q86
          try go_wp2_with (first | ((with_reducible refine gS 62 rfl ?_); refine pPR 1 62 (t497 : Int) 0 [.string x499000_23, .string x499001_23, .int .i64 t501] k122 122 l0_3 (⟨x499000_23, x499001_23, t501⟩ : S122) z122 [.string ((rd_T122 l0_3 t497).f0), .string ((rd_T122 l0_3 t497).f1), .int .i64 ((rd_T122 l0_3 t497).f2)] HM rfl rfl (of_decide_eq_true AS) (by have h_ : (t497 : Int) < ((l0_3.length : Int) : Int) := of_decide_eq_true AS; have e_ := (HM.CR 1 rfl).1; omega) (fun _ _ h => k122_openM h) (k122_mkM _ _ _ (⟨x499000_23, x499001_23, t501⟩ : S122)) ?_; clear HM; intro w87 HM))
          refine RGN 6 [0, 1, 2, 3, 4, 5] (fun a0 b a w' => a = putSel a0 b [(0, 63, .agg #[.int .i64 a0_0, .int .i64 a0_1, .slice Xo5 l0_2.length ko5, .slice (some ⟨go86, 0, none⟩) l0_3.length ko6, .slice Xo7 l0_4.length ko7]), (1, 64, .pointer (some ⟨gb498, 1, none⟩)), (2, 65, .string x499001_23), (4, 9, .string x499001_23), (5, 10, .bool true)] ∧ Mem w0 F w' [rowR k122 122 (.slice Xo5 l0_2.length ko5) l0_2, rowR k122 122 (.slice (some ⟨go86, 0, none⟩) l0_3.length ko6) (l0_3.set (t497 : Int).toNat (⟨x499000_23, x499001_23, t501⟩ : S122)), rowR (Kd.int .i64) 3 (.slice Xo7 l0_4.length ko7) l0_4, box 32 gb494 [.int .i64 a0_0, .int .i64 a0_1, .slice Xo5 l0_2.length ko5, .slice (some ⟨go86, 0, none⟩) l0_3.length ko6, .slice Xo7 l0_4.length ko7], sel (b 3) (box 32 gb495 [.int .i64 a0_0, .int .i64 a0_1, .slice Xo5 l0_2.length ko5, .slice (some ⟨go86, 0, none⟩) l0_3.length ko6, .slice Xo7 l0_4.length ko7]) (box 32 gb495 [.int .i64 0, .int .i64 0, .slice none 0 0, .slice none 0 0, .slice none 0 0]), box 122 gb498 [.string x499000_23, .string x499001_23, .int .i64 t501]]) spec_l10Touch.tab16 spec_l10Touch.bits16 ?_ ?_ ?_
          ·exact ⟨PS0' rfl _, (HM.drew).pick [0, 1, 2, 3, 4, 5]⟩
          ·clear HM
           refine SY ?_ ?_
           ·intro b a w ha HM hb hon hoff K hK
            obtain ⟨_,_,_,_,_,_,_,_,_,_⟩ := bk5 (HM.bx 3 rfl)
            have e4 := PG ha 4
            exact VL (.agg #[.int .i64 a0_0, .int .i64 a0_1, .slice Xo5 l0_2.length ko5, .slice (some ⟨go86, 0, none⟩) l0_3.length ko6, .slice Xo7 l0_4.length ko7]) (hK.out _ _ ⟨PUT ha 0 hb, HM⟩)
           refine SY ?_ ?_
           ·intro b a w ha HM hb hon hoff K hK
            have e13 := PG ha 13
            exact VL (.pointer (some ⟨gb498, 1, none⟩)) (hK.out _ _ ⟨PUT ha 1 hb, HM⟩)
           refine SY ?_ ?_
           ·intro b a w ha HM hb hon hoff K hK
            obtain ⟨_,_,_,_,_,_⟩ := bk3 (HM.bx 5 rfl)
            have e64 := PE ha 1 hon
            exact VL (.string x499001_23) (hK.out _ _ ⟨PUT ha 2 hb, HM⟩)
           refine SY ?_ ?_
           ·intro b a w ha HM hb hon hoff K hK
            replace HM := HM.sF 4 rfl hb
            have e8 := PG ha 8
            have e63 := PE ha 0 hon
            refine ST (eS 4 8 0 [.int .i64 a0_0, .int .i64 a0_1, .slice Xo5 l0_2.length ko5, .slice (some ⟨go86, 0, none⟩) l0_3.length ko6, .slice Xo7 l0_4.length ko7] HM rfl rfl ?_ (hp := (eval_of e8)) (hx := (by rw [eval_of e63]; rfl)))
            clear HM
            intro w93 HM
            exact hK.out _ _ ⟨PUS ha, (HM).pick [0, 1, 2, 3, 4, 5]⟩
           refine SY ?_ ?_
           ·intro b a w ha HM hb hon hoff K hK
            have e65 := PE ha 2 hon
            exact VL (.string x499001_23) (hK.out _ _ ⟨PUT ha 3 hb, HM⟩)
           refine SY ?_ ?_
           ·intro b a w ha HM hb hon hoff K hK
            exact VL (.bool true) (hK.out _ _ ⟨PUT ha 4 hb, HM⟩)
           exact steps_nil
          rintro _ w94 ⟨rfl, HM⟩
          replace HM := HM.sT 4 rfl rfl
          simp only [putSel, if_true, Act.put, List.setIfInBounds_toArray, List.set_cons_zero, List.set_cons_succ, gt_iff_lt, ge_iff_le]
          simp only [Option.some.injEq, Prod.mk.injEq] at H
          obtain ⟨rfl, rfl, rfl, rfl, rfl, rfl, rfl⟩ := H
          go_wp2
          refine bodyPost_ret (results_ctt rfl _ _ gb495 32 #[.int .i64 a0_0, .int .i64 a0_1, .slice Xo5 l0_2.length ko5, .slice (some ⟨go86, 0, none⟩) l0_3.length ko6, .slice Xo7 l0_4.length ko7] (0, 0) _ rfl (HM.bx 4 rfl) Try.underlying32 rfl (by kernel_rfl)) rfl ?_
          exact ⟨_, _, _, ER, (MD HM).pick [0, 1, 2]⟩
def spec_l10Copy.f (a0_0 : Int) (a0_1 : Int) (l0_2 : List (S122)) (l0_3 : List (S122)) (l0_4 : List Int) : Option (Int × Int × (List (S122)) × (List (S122)) × List Int) := (some (([] : List (S122)) : List (S122))).bind fun y508 => (if y508.length + l0_2.length < 3518437208883 then ((some (([] : List (S122)) : List (S122))).bind fun y514 => (if y514.length + l0_3.length < 3518437208883 then ((some (([] : List Int) : List Int)).bind fun y520 => (if y520.length + l0_4.length < 17592186044416 then (some (a0_0, a0_1, (y508 ++ l0_2), (y514 ++ l0_3), (y520 ++ l0_4))) else (none))) else (none))) else (none))
def spec_l10Copy.T1 : Bool × List (List Nat × List Nat) := (true, [([], []), ([0], [0]), ([], []), ([2], [2]), ([], []), ([], []), ([5], [5]), ([4, 6], [4, 6]), ([], []), ([], []), ([9], [9]), ([8, 10, 7], [8, 10]), ([], []), ([], []), ([13], [13]), ([12, 14, 11], [12, 14]), ([1, 3, 7, 11, 15], [1, 3, 7, 11, 15]), ([16, 15, 0, 1, 2, 3, 4, 5, 6, 7, 8, 9, 10, 11, 12, 13, 14, 15, 16], [16])])
def spec_l10Copy.B1 : List Nat := [0, 1, 0, 4, 0, 0, 32, 112, 0, 0, 512, 2032, 0, 0, 8192, 32752, 65535, 131071]
theorem spec_l10Copy.tab1 : rtab .any (opsOf Try.f195 1) = spec_l10Copy.T1 := by kernel_rfl
theorem spec_l10Copy.bits1 : waitsOk spec_l10Copy.T1.2 spec_l10Copy.B1 = true := by kernel_rfl
theorem spec_l10Copy.calls (a0_0 : Int) (a0_1 : Int) (A0_2 : Option Addr) (c0_2 : Nat) (l0_2 : List (S122)) (A0_3 : Option Addr) (c0_3 : Nat) (l0_3 : List (S122)) (A0_4 : Option Addr) (c0_4 : Nat) (l0_4 : List Int) (r1 : Int) (r2 : Int) (r3 : List (S122)) (r4 : List (S122)) (r5 : List Int) (w : World) (hr0_2 : Kd.C k122 w A0_2 l0_2.length l0_2) (hc0_2 : l0_2.length ≤ c0_2) (hr0_3 : Kd.C k122 w A0_3 l0_3.length l0_3) (hc0_3 : l0_3.length ≤ c0_3) (hr0_4 : Kd.C (Kd.int .i64) w A0_4 l0_4.length l0_4) (hc0_4 : l0_4.length ≤ c0_4) (h : spec_l10Copy.f a0_0 a0_1 l0_2 l0_3 l0_4 = some (r1, r2, r3, r4, r5)) :
  Calls Try.prog 195 #[.agg #[.int .i64 a0_0, .int .i64 a0_1, .slice A0_2 l0_2.length c0_2, .slice A0_3 l0_3.length c0_3, .slice A0_4 l0_4.length c0_4]] w fun e w' => ∃ v2_ v3_ v4_ : Value, e = .returned (.agg #[.int .i64 r1, .int .i64 r2, v2_, v3_, v4_]) ∧ Mem w [] w' [rowR k122 122 v2_ r3, rowR k122 122 v3_ r4, rowR (Kd.int .i64) 3 v4_ r5] := by
 have hu32 := Try.underlying32
 have HR0_2 := Aside0.mk hr0_2
 have HC0_2 := Aside0.mk hc0_2
 clear hr0_2 hc0_2
 have HR0_3 := Aside0.mk hr0_3
 have HC0_3 := Aside0.mk hc0_3
 clear hr0_3 hc0_3
 have HR0_4 := Aside0.mk hr0_4
 have HC0_4 := Aside0.mk hc0_4
 clear hr0_4 hc0_4
 have HM := Mem.nil w
 have H := h
 clear h
 unfold spec_l10Copy.f at H
 go_enter Try.func195, Try.ntmps195
 try go_wp2_with (first | ((with_reducible refine gN 1 rfl ?_); refine pB 1 32 [.int .i64 a0_0, .int .i64 a0_1, .slice A0_2 l0_2.length c0_2, .slice A0_3 l0_3.length c0_3, .slice A0_4 l0_4.length c0_4] HM rfl ?_; clear HM; intro gb506 w2 HM) | ((with_reducible refine gN 2 rfl ?_); refine pB 2 32 [.int .i64 0, .int .i64 0, .slice none 0 0, .slice none 0 0, .slice none 0 0] HM rfl ?_; clear HM; intro gb507 w3 HM))
 replace H := BLt H; obtain ⟨y508, Ny508, H⟩ := H
 replace Ny508 := Aside0.mk Ny508
 replace H := GD H; obtain ⟨c4, H⟩ := H
 have LMc4 := Aside0.mk c4
 clear c4
 replace H := BLt H; obtain ⟨y514, Ny514, H⟩ := H
 replace Ny514 := Aside0.mk Ny514
 replace H := GD H; obtain ⟨c5, H⟩ := H
 have LMc5 := Aside0.mk c5
 clear c5
 replace H := BLt H; obtain ⟨y520, Ny520, H⟩ := H
 replace Ny520 := Aside0.mk Ny520
 replace H := GD H; obtain ⟨c6, H⟩ := H
 have LMc6 := Aside0.mk c6
 clear c6
 refine RGN 18 [0, 1, 2, 3, 4, 5, 6, 7, 8, 9, 10, 11, 12, 13, 14, 15, 16, 17] (fun a0 b a w' => ∃ (v509 : Value) (v512 : Value) (v515 : Value) (v518 : Value) (v521 : Value) (v524 : Value), a = putSel a0 b [(0, 3, .pointer (some ⟨gb506, 0, none⟩)), (1, 4, .int .i64 a0_0), (2, 5, .pointer (some ⟨gb506, 1, none⟩)), (3, 6, .int .i64 a0_1), (4, 7, v509), (5, 8, .pointer (some ⟨gb506, 2, none⟩)), (6, 9, .slice A0_2 l0_2.length c0_2), (7, 10, v512), (8, 11, v515), (9, 12, .pointer (some ⟨gb506, 3, none⟩)), (10, 13, .slice A0_3 l0_3.length c0_3), (11, 14, v518), (12, 15, v521), (13, 16, .pointer (some ⟨gb506, 4, none⟩)), (14, 17, .slice A0_4 l0_4.length c0_4), (15, 18, v524), (16, 19, .agg #[.int .i64 a0_0, .int .i64 a0_1, v512, v518, v524])] ∧ Mem w [] w' [box 32 gb506 [.int .i64 a0_0, .int .i64 a0_1, .slice A0_2 l0_2.length c0_2, .slice A0_3 l0_3.length c0_3, .slice A0_4 l0_4.length c0_4], sel (b 17) (box 32 gb507 [.int .i64 a0_0, .int .i64 a0_1, v512, v518, v524]) (box 32 gb507 [.int .i64 0, .int .i64 0, .slice none 0 0, .slice none 0 0, .slice none 0 0]), sel (b 7) (rowR k122 122 v512 (y508 ++ l0_2)) (sel (b 4) (rowR k122 122 v509 y508) (emp)), sel (b 11) (rowR k122 122 v518 (y514 ++ l0_3)) (sel (b 8) (rowR k122 122 v515 y514) (emp)), sel (b 15) (rowR (Kd.int .i64) 3 v524 (y520 ++ l0_4)) (sel (b 12) (rowR (Kd.int .i64) 3 v521 y520) (emp))]) spec_l10Copy.tab1 spec_l10Copy.bits1 ?_ ?_ ?_
 ·exact ⟨.bool false, .bool false, .bool false, .bool false, .bool false, .bool false, PS0' rfl _, (HM.drew.ems 3).pick [0, 1, 2, 3, 4]⟩
 ·clear HM
  refine SZ ?_ ?_
  ·rintro b a w ⟨v509, v512, v515, v518, v521, v524, ha, HM⟩ hb hon hoff K hK
   replace ha := Aside0.mk ha
   have e1 := PG ha 1
   exact VL (.pointer (some ⟨gb506, 0, none⟩)) (hK.out _ _ ⟨v509, v512, v515, v518, v521, v524, PUT ha 0 hb, HM⟩)
  refine SZ ?_ ?_
  ·rintro b a w ⟨v509, v512, v515, v518, v521, v524, ha, HM⟩ hb hon hoff K hK
   replace ha := Aside0.mk ha
   obtain ⟨_,_,_,_,_,_,_,_,_,_⟩ := bk5 (HM.bx 0 rfl)
   have e3 := PE ha 0 hon
   exact VL (.int .i64 a0_0) (hK.out _ _ ⟨v509, v512, v515, v518, v521, v524, PUT ha 1 hb, HM⟩)
  refine SZ ?_ ?_
  ·rintro b a w ⟨v509, v512, v515, v518, v521, v524, ha, HM⟩ hb hon hoff K hK
   replace ha := Aside0.mk ha
   have e1 := PG ha 1
   exact VL (.pointer (some ⟨gb506, 1, none⟩)) (hK.out _ _ ⟨v509, v512, v515, v518, v521, v524, PUT ha 2 hb, HM⟩)
  refine SZ ?_ ?_
  ·rintro b a w ⟨v509, v512, v515, v518, v521, v524, ha, HM⟩ hb hon hoff K hK
   replace ha := Aside0.mk ha
   obtain ⟨_,_,_,_,_,_,_,_,_,_⟩ := bk5 (HM.bx 0 rfl)
   have e5 := PE ha 2 hon
   exact VL (.int .i64 a0_1) (hK.out _ _ ⟨v509, v512, v515, v518, v521, v524, PUT ha 3 hb, HM⟩)
  refine SZ ?_ ?_
  ·rintro b a w ⟨v509, v512, v515, v518, v521, v524, ha, HM⟩ hb hon hoff K hK
   replace ha := Aside0.mk ha
   refine ST (eL 7 k122 122 ([] : List (S122)) [] (Reps.none _ _) HM rfl ?_)
   clear HM
   intro v509 w27 HM
   replace HM := HM.nm 5 rfl Ny508.out
   exact hK.out _ _ ⟨v509, v512, v515, v518, v521, v524, PUT ha 4 hb, (HM.iF 5 rfl (hoff 7 rfl)).pick [0, 1, 5, 3, 4]⟩
  refine SZ ?_ ?_
  ·rintro b a w ⟨v509, v512, v515, v518, v521, v524, ha, HM⟩ hb hon hoff K hK
   replace ha := Aside0.mk ha
   have e1 := PG ha 1
   exact VL (.pointer (some ⟨gb506, 2, none⟩)) (hK.out _ _ ⟨v509, v512, v515, v518, v521, v524, PUT ha 5 hb, HM⟩)
  refine SZ ?_ ?_
  ·rintro b a w ⟨v509, v512, v515, v518, v521, v524, ha, HM⟩ hb hon hoff K hK
   replace ha := Aside0.mk ha
   obtain ⟨_,_,_,_,_,_,_,_,_,_⟩ := bk5 (HM.bx 0 rfl)
   have e8 := PE ha 5 hon
   exact VL (.slice A0_2 l0_2.length c0_2) (hK.out _ _ ⟨v509, v512, v515, v518, v521, v524, PUT ha 6 hb, HM⟩)
  refine SZ ?_ ?_
  ·rintro b a w ⟨v509, v512, v515, v518, v521, v524, ha, HM⟩ hb hon hoff K hK
   replace ha := Aside0.mk ha
   replace HM := (HM.sF 2 rfl hb).sT 2 rfl (hon 4 rfl)
   have e7 := PE ha 4 hon
   have e9 := PE ha 6 hon
   refine ST (eA 2 (.tmp 7) (.tmp 9) 29 122 k122 v509 y508 l0_2 A0_2 l0_2.length c0_2 HM rfl Try.underlying29 info122 rfl (HM.came HR0_2.out) (by have h_ := LMc4.out; omega) ?_ (ops := #[]) (hw := by rfl) (hs := (eval_of e7)) (hx := (eval_of e9)))
   clear HM
   intro v512 w29 HM
   exact hK.out _ _ ⟨v509, v512, v515, v518, v521, v524, PUT (PCH ha 16 (hoff 16 rfl)) 7 hb, ((HM.sF 1 rfl (hoff 17 rfl)).iF 1 rfl (hoff 17 rfl)).pick [0, 1, 2, 3, 4]⟩
  refine SZ ?_ ?_
  ·rintro b a w ⟨v509, v512, v515, v518, v521, v524, ha, HM⟩ hb hon hoff K hK
   replace ha := Aside0.mk ha
   refine ST (eL 11 k122 122 ([] : List (S122)) [] (Reps.none _ _) HM rfl ?_)
   clear HM
   intro v515 w30 HM
   replace HM := HM.nm 5 rfl Ny514.out
   exact hK.out _ _ ⟨v509, v512, v515, v518, v521, v524, PUT ha 8 hb, (HM.iF 5 rfl (hoff 11 rfl)).pick [0, 1, 2, 5, 4]⟩
  refine SZ ?_ ?_
  ·rintro b a w ⟨v509, v512, v515, v518, v521, v524, ha, HM⟩ hb hon hoff K hK
   replace ha := Aside0.mk ha
   have e1 := PG ha 1
   exact VL (.pointer (some ⟨gb506, 3, none⟩)) (hK.out _ _ ⟨v509, v512, v515, v518, v521, v524, PUT ha 9 hb, HM⟩)
  refine SZ ?_ ?_
  ·rintro b a w ⟨v509, v512, v515, v518, v521, v524, ha, HM⟩ hb hon hoff K hK
   replace ha := Aside0.mk ha
   obtain ⟨_,_,_,_,_,_,_,_,_,_⟩ := bk5 (HM.bx 0 rfl)
   have e12 := PE ha 9 hon
   exact VL (.slice A0_3 l0_3.length c0_3) (hK.out _ _ ⟨v509, v512, v515, v518, v521, v524, PUT ha 10 hb, HM⟩)
  refine SZ ?_ ?_
  ·rintro b a w ⟨v509, v512, v515, v518, v521, v524, ha, HM⟩ hb hon hoff K hK
   replace ha := Aside0.mk ha
   replace HM := (HM.sF 3 rfl hb).sT 3 rfl (hon 8 rfl)
   have e11 := PE ha 8 hon
   have e13 := PE ha 10 hon
   refine ST (eA 3 (.tmp 11) (.tmp 13) 29 122 k122 v515 y514 l0_3 A0_3 l0_3.length c0_3 HM rfl Try.underlying29 info122 rfl (HM.came HR0_3.out) (by have h_ := LMc5.out; omega) ?_ (ops := #[]) (hw := by rfl) (hs := (eval_of e11)) (hx := (eval_of e13)))
   clear HM
   intro v518 w32 HM
   exact hK.out _ _ ⟨v509, v512, v515, v518, v521, v524, PUT (PCH ha 16 (hoff 16 rfl)) 11 hb, ((HM.sF 1 rfl (hoff 17 rfl)).iF 1 rfl (hoff 17 rfl)).pick [0, 1, 2, 3, 4]⟩
  refine SZ ?_ ?_
  ·rintro b a w ⟨v509, v512, v515, v518, v521, v524, ha, HM⟩ hb hon hoff K hK
   replace ha := Aside0.mk ha
   refine ST (eL 15 (Kd.int .i64) 3 ([] : List Int) [] (Reps.none _ _) HM rfl ?_)
   clear HM
   intro v521 w33 HM
   replace HM := HM.nm 5 rfl Ny520.out
   exact hK.out _ _ ⟨v509, v512, v515, v518, v521, v524, PUT ha 12 hb, (HM.iF 5 rfl (hoff 15 rfl)).pick [0, 1, 2, 3, 5]⟩
  refine SZ ?_ ?_
  ·rintro b a w ⟨v509, v512, v515, v518, v521, v524, ha, HM⟩ hb hon hoff K hK
   replace ha := Aside0.mk ha
   have e1 := PG ha 1
   exact VL (.pointer (some ⟨gb506, 4, none⟩)) (hK.out _ _ ⟨v509, v512, v515, v518, v521, v524, PUT ha 13 hb, HM⟩)
  refine SZ ?_ ?_
  ·rintro b a w ⟨v509, v512, v515, v518, v521, v524, ha, HM⟩ hb hon hoff K hK
   replace ha := Aside0.mk ha
   obtain ⟨_,_,_,_,_,_,_,_,_,_⟩ := bk5 (HM.bx 0 rfl)
   have e16 := PE ha 13 hon
   exact VL (.slice A0_4 l0_4.length c0_4) (hK.out _ _ ⟨v509, v512, v515, v518, v521, v524, PUT ha 14 hb, HM⟩)
  refine SZ ?_ ?_
  ·rintro b a w ⟨v509, v512, v515, v518, v521, v524, ha, HM⟩ hb hon hoff K hK
   replace ha := Aside0.mk ha
   replace HM := (HM.sF 4 rfl hb).sT 4 rfl (hon 12 rfl)
   have e15 := PE ha 12 hon
   have e17 := PE ha 14 hon
   refine ST (eA 4 (.tmp 15) (.tmp 17) 30 3 (Kd.int .i64) v521 y520 l0_4 A0_4 l0_4.length c0_4 HM rfl Try.underlying30 info3 rfl (HM.came HR0_4.out) (by have h_ := LMc6.out; omega) ?_ (ops := #[]) (hw := by rfl) (hs := (eval_of e15)) (hx := (eval_of e17)))
   clear HM
   intro v524 w35 HM
   exact hK.out _ _ ⟨v509, v512, v515, v518, v521, v524, PUT (PCH ha 16 (hoff 16 rfl)) 15 hb, ((HM.sF 1 rfl (hoff 17 rfl)).iF 1 rfl (hoff 17 rfl)).pick [0, 1, 2, 3, 4]⟩
  refine SZ ?_ ?_
  ·rintro b a w ⟨v509, v512, v515, v518, v521, v524, ha, HM⟩ hb hon hoff K hK
   replace ha := Aside0.mk ha
   have HZ := HM
   replace HM := HM.sT 2 rfl (hon 7 rfl)
   replace HM := HM.sT 3 rfl (hon 11 rfl)
   replace HM := HM.sT 4 rfl (hon 15 rfl)
   obtain ⟨Xo36, ko36, rfl⟩ := HM.rdR 4 rfl
   obtain ⟨Xo37, ko37, rfl⟩ := HM.rdR 3 rfl
   obtain ⟨Xo38, ko38, rfl⟩ := HM.rdR 2 rfl
   have e4 := PE ha 1 hon
   have e6 := PE ha 3 hon
   have e10 := PE ha 7 hon
   have e14 := PE ha 11 hon
   have e18 := PE ha 15 hon
   exact VL (.agg #[.int .i64 a0_0, .int .i64 a0_1, .slice Xo38 (y508 ++ l0_2).length ko38, .slice Xo37 (y514 ++ l0_3).length ko37, .slice Xo36 (y520 ++ l0_4).length ko36]) (hK.out _ _ ⟨v509, .slice Xo38 (y508 ++ l0_2).length ko38, v515, .slice Xo37 (y514 ++ l0_3).length ko37, v521, .slice Xo36 (y520 ++ l0_4).length ko36, PUT ha 16 hb, HZ⟩)
  refine SZ ?_ ?_
  ·rintro b a w ⟨v509, v512, v515, v518, v521, v524, ha, HM⟩ hb hon hoff K hK
   replace ha := Aside0.mk ha
   replace HM := HM.sF 1 rfl hb
   replace HM := HM.sT 2 rfl (hon 7 rfl)
   replace HM := HM.sT 3 rfl (hon 11 rfl)
   replace HM := HM.sT 4 rfl (hon 15 rfl)
   obtain ⟨Xo39, ko39, rfl⟩ := HM.rdR 2 rfl
   obtain ⟨Xo40, ko40, rfl⟩ := HM.rdR 3 rfl
   obtain ⟨Xo41, ko41, rfl⟩ := HM.rdR 4 rfl
   have e2 := PG ha 2
   have e19 := PE ha 16 hon
   refine ST (eS 1 2 0 [.int .i64 a0_0, .int .i64 a0_1, .slice Xo39 (y508 ++ l0_2).length ko39, .slice Xo40 (y514 ++ l0_3).length ko40, .slice Xo41 (y520 ++ l0_4).length ko41] HM rfl rfl ?_ (hp := (eval_of e2)) (hx := (by rw [eval_of e19]; rfl)))
   clear HM
   intro w42 HM
   exact hK.out _ _ ⟨v509, .slice Xo39 (y508 ++ l0_2).length ko39, v515, .slice Xo40 (y514 ++ l0_3).length ko40, v521, .slice Xo41 (y520 ++ l0_4).length ko41, PUS ha, (((HM.iT 2 rfl (hon 7 rfl)).iT 3 rfl (hon 11 rfl)).iT 4 rfl (hon 15 rfl)).pick [0, 1, 2, 3, 4]⟩
  exact steps_nil
 rintro _ w43 ⟨v509, v512, v515, v518, v521, v524, rfl, HM⟩
 replace HM := HM.sT 1 rfl rfl
 replace HM := HM.sT 2 rfl rfl
 replace HM := HM.sT 3 rfl rfl
 replace HM := HM.sT 4 rfl rfl
 simp only [putSel, if_true, Act.put, List.setIfInBounds_toArray, List.set_cons_zero, List.set_cons_succ, gt_iff_lt, ge_iff_le]
 simp only [Option.some.injEq, Prod.mk.injEq] at H
 obtain ⟨rfl, rfl, rfl, rfl, rfl⟩ := H
 go_wp2
 refine bodyPost_ret (results_cell_row rfl _ _ gb507 32 #[.int .i64 a0_0, .int .i64 a0_1, v512, v518, v524] (0, 0) _ rfl (HM.bx 1 rfl) Try.underlying32 rfl (by kernel_rfl)) rfl ?_
 exact ⟨_, _, _, ER, (MD HM).pick [2, 3, 4]⟩
end Go.Proofs.Ythnedklbobbkcaa.G

namespace Go.Proofs.Ythnedklbobbkcaa.G
open Go.RowKit Go.Proofs.YthnedklbobbkcaaW.PrintWords Go.Proofs.YthnedklbobbkcaaW.PrintLast Go.Proofs.YthnedklbobbkcaaW.PrintMore Go.Proofs.Ythnedklbobbkcaa.Sh
attribute [local go_sem] max2_int min2_int max_two min_two max_three min_three max_four min_four
set_option linter.unusedVariables false
set_option linter.unusedSimpArgs false
def spec_Hash.l0 : Nat → ByteArray → Int → Int → Option (Int)
 | 0, _, _, _ => none
 | k + 1, x0, x3, x4 => if x4 < (x0.size : Int) then (if 0 ≤ x4 then (spec_Hash.l0 k x0 (Int.tmod (wrap64 ((Go.bits .xor .i64 x3 (wrap64 (bt x0 x4))) * 16777619)) 4294967296) (wrap64 (x4 + 1))) else (none)) else (some x3)
def spec_Hash.f (k : Nat) (a0 : ByteArray) : Option (Int) := spec_Hash.l0 k a0 2166136261 0
theorem spec_Hash.calls (k : Nat) (a0 : ByteArray) (r : Int) (w : World) (h : spec_Hash.f k a0 = some r) :
  Calls Try.prog 197 #[.string a0] w fun e w' => e = .returned (.int .i64 r) ∧ Drawn0 w w' := by
 have H : (spec_Hash.l0 k a0 2166136261 0) = some r := h
 clear h
 have H' := Aside0.mk H
 clear H
 go_enter Try.func197, Try.ntmps197
 go_wp2
 go_loopg [3, 4] k (fun kq v3 v4 w' => ∃ (x3_1 : Int) (x4_1 : Int), v3 = .int .i64 x3_1 ∧ v4 = .int .i64 x4_1 ∧ Aside0 (spec_Hash.l0 kq a0 x3_1 x4_1 = some r) ∧ Aside0 (kq ≤ k) ∧ Drawn0 w w')
 case atStart => exact ⟨(2166136261), (0), RS, RS, H', ⟨Nat.le_refl _⟩, DR⟩
 case round =>
  clear H'
  try clear c1
  obtain ⟨x3_1, x4_1, rfl, rfl, HA, HK1, ⟨m1, rfl⟩⟩ := hrel
  cases gk with
  | zero => exact absurd HA.out (by simp [spec_Hash.l0])
  | succ k1 =>
   have H := HA.out
   clear HA
   simp only [spec_Hash.l0] at H
   by_cases c2 : x4_1 < (a0.size : Int)
   ·rw [if_pos c2] at H
    have c2b0 : decide (x4_1 < (a0.size : Int)) = true := decide_eq_true c2
    clear c2
    by_cases c3 : 0 ≤ x4_1
    ·rw [if_pos c3] at H
     have c3b0 : decide (0 ≤ x4_1) = true := decide_eq_true c3
     clear c3
     have H' := Aside0.mk H
     clear H
     have p4 : 0 ≤ (x4_1 : Int) := of_decide_eq_true AS
     have q4 : x4_1 < (a0.size : Int) := of_decide_eq_true AS
     have hx4 := bt_at a0 x4_1
     replace p4 := eq_true p4
     replace q4 := eq_true q4
     go_wp2
     go_roundg k1
     case measure => have := HK1.out; omega
     case rel => exact ⟨(Int.tmod (wrap64 ((Go.bits .xor .i64 x3_1 (wrap64 (bt a0 x4_1))) * 16777619)) 4294967296), (wrap64 (x4_1 + 1)), RS, RS, H', ⟨by have := HK1.out; omega⟩, DR⟩
    ·rw [if_neg c3] at H
     exact absurd H (by simp)
   ·rw [if_neg c2] at H
    have c2b0 : decide (x4_1 < (a0.size : Int)) = false := decide_eq_false c2
    clear c2
    obtain rfl := Option.some.inj H
    go_wp2
    go_ret
    exact ⟨by first | rfl | (simp; done) | (simp [*]; done), DR⟩
end Go.Proofs.Ythnedklbobbkcaa.G

namespace Go.Proofs.Ythnedklbobbkcaa.G
open Go.RowKit Go.Proofs.YthnedklbobbkcaaW.PrintWords Go.Proofs.YthnedklbobbkcaaW.PrintLast Go.Proofs.YthnedklbobbkcaaW.PrintMore Go.Proofs.Ythnedklbobbkcaa.Sh
attribute [local go_sem] max2_int min2_int max_two min_two max_three min_three max_four min_four
set_option linter.unusedVariables false
set_option linter.unusedSimpArgs false
open Go.Proofs.Ythnedklbobbkcaa.Mm
def spec_l08But.l0 : Nat → Int → List Int → List Int → Int → Int → Option (List Int)
 | 0, _, _, _, _, _ => none
 | k + 1, x1, x5, x9, x10, x11 => if x11 < x10 then (if 0 ≤ x11 then (if x11 < (x9.length : Int) then (if (rd x9 x11) = x1 then (spec_l08But.l0 k x1 x5 x9 x10 (wrap64 (x11 + 1))) else (if x5.length < 17592186044416 then (spec_l08But.l0 k x1 (x5 ++ [rd x9 x11]) x9 x10 (wrap64 (x11 + 1))) else (none))) else (none)) else (none)) else (some x5)
def spec_l08But.f (k : Nat) (l0 : List Int) (a1 : Int) : Option (List Int) := spec_l08But.l0 k a1 (([] : List Int)) l0 (l0.length : Int) 0
theorem spec_l08But.calls (k : Nat) (A0 : Option Addr) (c0 : Nat) (l0 : List Int) (a1 : Int) (r : List Int) (w : World) (hr0 : Kd.C (Kd.int .i64) w A0 l0.length l0) (hc0 : l0.length ≤ c0) (h : spec_l08But.f k l0 a1 = some r) :
  Calls Try.prog 198 #[.slice A0 l0.length c0, .int .i64 a1] w fun e w' => ∃ v0_ : Value, e = .returned (v0_) ∧ Mem w [] w' [rowR (Kd.int .i64) 3 v0_ r] := by
 have HR0 := Aside0.mk hr0
 have HC0 := Aside0.mk hc0
 clear hr0 hc0
 have HM := Mem.nil w
 have H := h
 clear h
 unfold spec_l08But.f at H
 go_enter Try.func198, Try.ntmps198
 have H' := Aside0.mk H
 clear H
 go_wp2_with (first | ((with_reducible refine gN 8 rfl ?_); refine pL 8 (Kd.int .i64) 3 ([] : List Int) [] (Reps.none _ _) HM rfl ?_; clear HM; intro v527 w3 HM))
 go_loopg [5, 11] k (fun kq v5 v11 w' => ∃ (x5_1 : List Int) (x11_1 : Int), v11 = .int .i64 x11_1 ∧ Aside0 (spec_l08But.l0 kq a1 x5_1 l0 (l0.length : Int) x11_1 = some r) ∧ Aside0 (kq ≤ k) ∧ Mem w [] w' [rowR (Kd.int .i64) 3 v5 x5_1])
 case atStart => exact ⟨((([] : List Int))), (0), RS, H', ⟨Nat.le_refl _⟩, (MD HM).pick [0]⟩
 case round =>
  clear H' HM
  obtain ⟨x5_1, x11_1, rfl, HA, HK1, HM⟩ := hrel
  cases gk with
  | zero => exact absurd HA.out (by simp [spec_l08But.l0])
  | succ k1 =>
   have H := HA.out
   clear HA
   simp only [spec_l08But.l0] at H
   go_upto_if 12 with (fail)
   replace H := IT H; rcases H with ⟨c4, H⟩ | ⟨c4, H⟩
   ·have c4b0 := decide_eq_true c4
    clear c4
    first|rw [c4b0]|(simp only [i64_w, i32_w]; rw [c4b0])|skip
    replace H := GD H; obtain ⟨c5, H⟩ := H
    have c5b0 := decide_eq_true c5
    clear c5
    replace H := GD H; obtain ⟨c6, H⟩ := H
    have c6b0 := decide_eq_true c6
    clear c6
    have p529 : 0 ≤ (x11_1 : Int) := of_decide_eq_true AS
    have q529 : (x11_1 : Int) < (l0.length : Int) := of_decide_eq_true AS
    obtain ⟨ad529, e529, hx529_0⟩ := Kd.at_int (HM.came HR0.out) x11_1 p529 q529
    cases e529
    replace p529 := eq_true p529
    replace q529 := eq_true q529
    go_upto_if 17 with (fail)
    replace H := IT H; rcases H with ⟨c7, H⟩ | ⟨c7, H⟩
    ·obtain ⟨c7b0, c7b1⟩ := BE c7
     clear c7
     first|rw [c7b0]|(simp only [i64_w, i32_w]; rw [c7b0])|skip
     have H' := Aside0.mk H
     clear H
     go_wp2
     go_roundg k1
     case measure => have := HK1.out; omega
     case rel => exact ⟨(x5_1), (wrap64 (x11_1 + 1)), RS, H', ⟨by have := HK1.out; omega⟩, (MD HM).pick [0]⟩
    ·obtain ⟨c7b0, c7b1⟩ := BF c7
     first|rw [c7b0]|(simp only [i64_w, i32_w]; rw [c7b0])|skip
     replace H := GD H; obtain ⟨c8, H⟩ := H
     have LMc8 := Aside0.mk c8
     clear c8
     have H' := Aside0.mk H
     clear H
     go_wp2_with (first | ((with_reducible refine gN 20 rfl ?_); refine pL 20 (Kd.int .i64) 3 [rd l0 x11_1] [.int .i64 (rd l0 x11_1)] (Reps.one (show Kd.M (Kd.int .i64) _ _ _ (rd l0 x11_1) [.int .i64 (rd l0 x11_1)] from rfl) (Reps.none _ _)) HM rfl ?_; clear HM; intro v10 w9 HM; obtain ⟨Xv10, kv10, rfl⟩ := HM.rdR 1 rfl) | ((with_reducible refine gate_builtin (b := .append) (xs := #[.tmp 18, .tmp 20]) rfl ?_); refine pA 0 (.tmp 18) (.tmp 20) 30 3 (Kd.int .i64) u5 x5_1 [rd l0 x11_1] Xv10 ([rd l0 x11_1].length) kv10 HM rfl Try.underlying30 info3 rfl (HM.CR 1 rfl).2.2 (by have h_ := LMc8.out; simp only [List.length_singleton]; omega) ?_; clear HM; intro v531 w11 HM))
     go_roundg k1
     case measure => have := HK1.out; omega
     case rel => exact ⟨((x5_1 ++ [rd l0 x11_1])), (wrap64 (x11_1 + 1)), RS, H', ⟨by have := HK1.out; omega⟩, (MD HM).pick [0]⟩
   ·have c4b0 := decide_eq_false c4
    clear c4
    first|rw [c4b0]|(simp only [i64_w, i32_w]; rw [c4b0])|skip
    obtain rfl := Option.some.inj H
    go_wp2
    go_ret
    exact ⟨_, ER, (MD HM).pick [0]⟩
def spec_l10Haunt.f (k : Nat) (a0_0 : Int) (a0_1 : Int) (l0_2 : List (S122)) (l0_3 : List (S122)) (l0_4 : List Int) (a1 : Int) : Option (Int × Int × (List (S122)) × (List (S122)) × List Int) := (spec_l08But.f k l0_4 a1).bind fun t535 => (if t535.length < 17592186044416 then ((some (t535 ++ [a1] : List Int)).bind fun y538 => ((spec_l10Ghosts.f a0_0 a0_1 l0_2 l0_3 y538).bind fun t541 => (if (y538.length : Int) > t541 then (if 1 ≤ (y538.length : Int) then (some (a0_0, a0_1, l0_2, l0_3, (y538.drop (1 : Int).toNat))) else (none)) else (some (a0_0, a0_1, l0_2, l0_3, y538))))) else (none))
def spec_l10Haunt.T2 : Bool × List (List Nat × List Nat) := (true, [([], []), ([0], [0]), ([1], [1]), ([], []), ([3], [3]), ([2, 4], [2, 4])])
def spec_l10Haunt.B2 : List Nat := [0, 1, 3, 0, 8, 31]
theorem spec_l10Haunt.tab2 : rtab .any (opsOf Try.f214 2) = spec_l10Haunt.T2 := by kernel_rfl
theorem spec_l10Haunt.bits2 : waitsOk spec_l10Haunt.T2.2 spec_l10Haunt.B2 = true := by kernel_rfl
theorem spec_l10Haunt.calls (k : Nat) (a0_0 : Int) (a0_1 : Int) (u9000_ : Value) (l0_2 : List (S122)) (u9001_ : Value) (l0_3 : List (S122)) (A0_4 : Option Addr) (c0_4 : Nat) (l0_4 : List Int) (a1 : Int) (r1 : Int) (r2 : Int) (r3 : List (S122)) (r4 : List (S122)) (r5 : List Int) (w0 w : World) (F : List SP)  (hM : Mem w0 F w [rowR k122 122 u9000_ l0_2, rowR k122 122 u9001_ l0_3, row (Kd.int .i64) 3 (.slice A0_4 l0_4.length c0_4) l0_4]) (h : spec_l10Haunt.f k a0_0 a0_1 l0_2 l0_3 l0_4 a1 = some (r1, r2, r3, r4, r5)) :
  Calls Try.prog 214 #[.agg #[.int .i64 a0_0, .int .i64 a0_1, u9000_, u9001_, .slice A0_4 l0_4.length c0_4], .int .i64 a1] w fun e w' => ∃ v2_ v3_ v4_ : Value, e = .returned (.agg #[.int .i64 r1, .int .i64 r2, v2_, v3_, v4_]) ∧ Mem w0 F w' [rowR k122 122 v2_ r3, rowR k122 122 v3_ r4, row (Kd.int .i64) 3 v4_ r5, row (Kd.int .i64) 3 (.slice A0_4 l0_4.length c0_4) l0_4] := by
 have hu32 := Try.underlying32
 have HM := hM
 clear hM
 have H := h
 clear h
 unfold spec_l10Haunt.f at H
 go_enter Try.func214, Try.ntmps214
 replace H := BN H; obtain ⟨t535, A8, H⟩ := H
 replace H := GD H; obtain ⟨c10, H⟩ := H
 have LMc10 := Aside0.mk c10
 clear c10
 replace H := BLt H; obtain ⟨y538, Ny538, H⟩ := H
 replace Ny538 := Aside0.mk Ny538
 obtain ⟨Xo3, ko3, rfl⟩ := HM.rdR 0 rfl
 obtain ⟨Xo4, ko4, rfl⟩ := HM.rdR 1 rfl
 try go_wp2_with (first | ((with_reducible refine gN 2 rfl ?_); refine pB 2 32 [.int .i64 a0_0, .int .i64 a0_1, .slice Xo3 l0_2.length ko3, .slice Xo4 l0_3.length ko4, .slice A0_4 l0_4.length c0_4] HM rfl ?_; clear HM; intro gb533 w5 HM) | ((with_reducible refine gN 4 rfl ?_); refine pB 4 32 [.int .i64 0, .int .i64 0, .slice none 0 0, .slice none 0 0, .slice none 0 0] HM rfl ?_; clear HM; intro gb534 w6 HM; obtain ⟨_,_,_,_,_,_,_,_,_,_⟩ := bk5 (HM.bx 3 rfl)) | ((with_reducible refine gC 198 rfl ?_); refine pC (some 8) rfl #[.slice A0_4 l0_4.length c0_4, .int .i64 a1] rfl Try.func198 (spec_l08But.calls k _ _ l0_4 a1 t535 _ (HM.C 2 rfl).2.2 (HM.C 2 rfl).2.1 A8.out) ?_; rintro e w9 ⟨v536, rfl, hR⟩; refine ⟨_, rfl, ?_⟩; replace HM := HM.call hR; clear hR) | ((with_reducible refine gN 10 rfl ?_); refine pL 10 (Kd.int .i64) 3 [a1] [.int .i64 a1] (Reps.one (show Kd.M (Kd.int .i64) _ _ _ a1 [.int .i64 a1] from rfl) (Reps.none _ _)) HM rfl ?_; clear HM; intro v12 w11 HM; obtain ⟨Xv12, kv12, rfl⟩ := HM.rdR 6 rfl) | ((with_reducible refine gate_builtin (b := .append) (xs := #[.tmp 8, .tmp 10]) rfl ?_); refine pA 5 (.tmp 8) (.tmp 10) 30 3 (Kd.int .i64) v536 t535 [a1] Xv12 ([a1].length) kv12 HM rfl Try.underlying30 info3 rfl (HM.CR 6 rfl).2.2 (by have h_ := LMc10.out; simp only [List.length_singleton]; omega) ?_; clear HM; intro v539 w13 HM; replace HM := HM.nm 5 rfl Ny538.out; obtain ⟨Xo14, ko14, rfl⟩ := HM.rdR 5 rfl) | ((with_reducible refine gS 12 rfl ?_); refine pS 3 12 4 [.slice Xo14 y538.length ko14] HM rfl rfl ?_; clear HM; intro w15 HM))
 replace H := BN H; obtain ⟨t541, A16, H⟩ := H
 refine RGN 6 [0, 1, 2, 3, 4, 5] (fun a0 b a w' => a = putSel a0 b [(0, 13, .pointer (some ⟨gb533, 4, none⟩)), (1, 14, .slice Xo14 y538.length ko14), (2, 15, .int .i64 (y538.length : Int)), (3, 16, .agg #[.int .i64 a0_0, .int .i64 a0_1, .slice Xo3 l0_2.length ko3, .slice Xo4 l0_3.length ko4, .slice Xo14 y538.length ko14]), (4, 17, .int .i64 t541), (5, 18, .bool (decide ((y538.length : Int) > t541)))] ∧ Mem w0 F w' [rowR k122 122 (.slice Xo3 l0_2.length ko3) l0_2, rowR k122 122 (.slice Xo4 l0_3.length ko4) l0_3, row (Kd.int .i64) 3 (.slice A0_4 l0_4.length c0_4) l0_4, box 32 gb533 [.int .i64 a0_0, .int .i64 a0_1, .slice Xo3 l0_2.length ko3, .slice Xo4 l0_3.length ko4, .slice Xo14 y538.length ko14], box 32 gb534 [.int .i64 0, .int .i64 0, .slice none 0 0, .slice none 0 0, .slice none 0 0], rowR (Kd.int .i64) 3 (.slice Xo14 y538.length ko14) y538, rowR (Kd.int .i64) 3 (.slice Xv12 [a1].length kv12) [a1]]) spec_l10Haunt.tab2 spec_l10Haunt.bits2 ?_ ?_ ?_
 ·exact ⟨PS0' rfl _, (HM.drew).pick [0, 1, 2, 3, 4, 5, 6]⟩
 ·clear HM
  refine SY ?_ ?_
  ·intro b a w ha HM hb hon hoff K hK
   have e2 := PG ha 2
   exact VL (.pointer (some ⟨gb533, 4, none⟩)) (hK.out _ _ ⟨PUT ha 0 hb, HM⟩)
  refine SY ?_ ?_
  ·intro b a w ha HM hb hon hoff K hK
   obtain ⟨_,_,_,_,_,_,_,_,_,_⟩ := bk5 (HM.bx 3 rfl)
   have e13 := PE ha 0 hon
   exact VL (.slice Xo14 y538.length ko14) (hK.out _ _ ⟨PUT ha 1 hb, HM⟩)
  refine SY ?_ ?_
  ·intro b a w ha HM hb hon hoff K hK
   have e14 := PE ha 1 hon
   exact VL (.int .i64 (y538.length : Int)) (hK.out _ _ ⟨PUT ha 2 hb, HM⟩)
  refine SY ?_ ?_
  ·intro b a w ha HM hb hon hoff K hK
   obtain ⟨_,_,_,_,_,_,_,_,_,_⟩ := bk5 (HM.bx 3 rfl)
   have e2 := PG ha 2
   exact VL (.agg #[.int .i64 a0_0, .int .i64 a0_1, .slice Xo3 l0_2.length ko3, .slice Xo4 l0_3.length ko4, .slice Xo14 y538.length ko14]) (hK.out _ _ ⟨PUT ha 3 hb, HM⟩)
  refine SY ?_ ?_
  ·intro b a w ha HM hb hon hoff K hK
   have e16 := PE ha 3 hon
   refine ST (eC (some 17) rfl #[.agg #[.int .i64 a0_0, .int .i64 a0_1, .slice Xo3 l0_2.length ko3, .slice Xo4 l0_3.length ko4, .slice Xo14 y538.length ko14]] rfl Try.func186 (spec_l10Ghosts.calls a0_0 a0_1 _ _ l0_2 _ _ l0_3 _ _ y538 t541 _ (HM.CR 0 rfl).2.2 (HM.CR 0 rfl).2.1 (HM.CR 1 rfl).2.2 (HM.CR 1 rfl).2.1 (HM.CR 5 rfl).2.2 (HM.CR 5 rfl).2.1 A16.out) ?_ (hargs := by (simp only [List.map_toArray, List.map_cons, List.map_nil, evc, eval_of e16]) <;> rfl))
   rintro e w22 ⟨rfl, hR⟩
   refine ⟨_, rfl, ?_⟩
   replace HM := HM.call hR
   clear hR
   exact hK.out _ _ ⟨PUT ha 4 hb, (HM).pick [0, 1, 2, 3, 4, 5, 6]⟩
  refine SY ?_ ?_
  ·intro b a w ha HM hb hon hoff K hK
   have e15 := PE ha 2 hon
   have e17 := PE ha 4 hon
   exact VL (.bool (decide ((y538.length : Int) > t541))) (hK.out _ _ ⟨PUT ha 5 hb, HM⟩)
  exact steps_nil
 rintro _ w23 ⟨rfl, HM⟩
 simp only [putSel, if_true, Act.put, List.setIfInBounds_toArray, List.set_cons_zero, List.set_cons_succ, gt_iff_lt, ge_iff_le]
 go_upto_if 18 with (fail)
 replace H := IT H; rcases H with ⟨c24, H⟩ | ⟨c24, H⟩
 ·have c24b0 : decide (t541 < (y538.length : Int)) = true := decide_eq_true c24
  clear c24
  first|rw [c24b0]|(simp only [i64_w, i32_w]; rw [c24b0])|skip
  replace H := GD H; obtain ⟨c26, H⟩ := H
  have c26b0 := eq_true c26
  have c26b1 : decide (1 ≤ (y538.length : Int)) = true := decide_eq_true c26
  clear c26
  simp only [Option.some.injEq, Prod.mk.injEq] at H
  obtain ⟨rfl, rfl, rfl, rfl, rfl⟩ := H
  obtain ⟨_,_,_,_,_,_,_,_,_,_⟩ := bk5 (HM.bx 3 rfl)
  go_wp2_with (first | ((with_reducible refine gate_sl (t := 30) rfl ?_); refine pD 5 30 3 (Kd.int .i64) _ _ 1 y538 Xo14 ko14 HM rfl Try.underlying30 info3 rfl (fun _ _ h => Kd.Q_of_R h) (by omega) (by have h_ : (1 : Int) ≤ ((y538.length : Int) : Int) := of_decide_eq_true AS; first | exact h_ | (have e_ := (HM.CR 5 rfl).1; omega)) ?_; clear HM; intro v543 HM; obtain ⟨Xo27, ko27, rfl⟩ := HM.rd 5 rfl) | ((with_reducible refine gS 22 rfl ?_); refine pS 3 22 4 [.slice Xo27 (y538.drop (1 : Int).toNat).length ko27] HM rfl rfl ?_; clear HM; intro w28 HM; obtain ⟨_,_,_,_,_,_,_,_,_,_⟩ := bk5 (HM.bx 3 rfl)) | ((with_reducible refine gS 4 rfl ?_); refine pS 4 4 0 [.int .i64 a0_0, .int .i64 a0_1, .slice Xo3 l0_2.length ko3, .slice Xo4 l0_3.length ko4, .slice Xo27 (y538.drop (1 : Int).toNat).length ko27] HM rfl rfl ?_; clear HM; intro w30 HM))
  refine bodyPost_ret (results_cell_row rfl _ _ gb534 32 #[.int .i64 a0_0, .int .i64 a0_1, .slice Xo3 l0_2.length ko3, .slice Xo4 l0_3.length ko4, .slice Xo27 (y538.drop (1 : Int).toNat).length ko27] (0, 0) _ rfl (HM.bx 4 rfl) Try.underlying32 rfl (by kernel_rfl)) rfl ?_
  exact ⟨_, _, _, ER, (MD HM).pick [0, 1, 5, 2]⟩
 ·have c24b0 : decide (t541 < (y538.length : Int)) = false := decide_eq_false c24
  clear c24
  first|rw [c24b0]|(simp only [i64_w, i32_w]; rw [c24b0])|skip
  simp only [Option.some.injEq, Prod.mk.injEq] at H
  obtain ⟨rfl, rfl, rfl, rfl, rfl⟩ := H
  obtain ⟨_,_,_,_,_,_,_,_,_,_⟩ := bk5 (HM.bx 3 rfl)
  go_wp2_with (first | ((with_reducible refine gS 4 rfl ?_); refine pS 4 4 0 [.int .i64 a0_0, .int .i64 a0_1, .slice Xo3 l0_2.length ko3, .slice Xo4 l0_3.length ko4, .slice Xo14 y538.length ko14] HM rfl rfl ?_; clear HM; intro w32 HM; replace HM := HM.toQ 5 rfl))
  refine bodyPost_ret (results_cell_row rfl _ _ gb534 32 #[.int .i64 a0_0, .int .i64 a0_1, .slice Xo3 l0_2.length ko3, .slice Xo4 l0_3.length ko4, .slice Xo14 y538.length ko14] (0, 0) _ rfl (HM.bx 4 rfl) Try.underlying32 rfl (by kernel_rfl)) rfl ?_
  exact ⟨_, _, _, ER, (MD HM).pick [0, 1, 5, 2]⟩
def spec_EvictSmall.l0 : Nat → Int → Int → List (S122) → List (S122) → List Int → Option (Int × Int × (List (S122)) × (List (S122)) × List Int × ByteArray × Bool)
 | 0, _, _, _, _, _ => none
 | k + 1, x560000, x560001, x560002, x560003, x560004 => if (x560002.length : Int) > 0 then (if 0 < (x560002.length : Int) then ((some (([] : List (S122)) : List (S122))).bind fun y562 => (if 1 ≤ (x560002.length : Int) then ((some (x560002.drop 1 : List (S122))).bind fun y565 => (if y562.length + y565.length < 3518437208883 then ((some (y562 ++ y565 : List (S122))).bind fun y569 => (if ((rd_T122 x560002 0).f2) ≤ 1 then ((spec_Hash.f k ((rd_T122 x560002 0).f0)).bind fun t572 => ((spec_l10Haunt.f k x560000 x560001 y569 x560003 x560004 t572).bind fun bt573 => (some (bt573.1, bt573.2.1, bt573.2.2.1, bt573.2.2.2.1, bt573.2.2.2.2, (rd_T122 x560002 0).f0, true)))) else (if x560003.length < 3518437208883 then (spec_EvictSmall.l0 k x560000 x560001 y569 (x560003 ++ [(⟨(rd_T122 x560002 0).f0, (rd_T122 x560002 0).f1, 0⟩ : S122)]) x560004) else (none)))) else (none))) else (none))) else (none)) else (some (x560000, x560001, x560002, x560003, x560004, (⟨#[]⟩ : ByteArray), false))
def spec_EvictSmall.f (k : Nat) (a0_0 : Int) (a0_1 : Int) (l0_2 : List (S122)) (l0_3 : List (S122)) (l0_4 : List Int) : Option (Int × Int × (List (S122)) × (List (S122)) × List Int × ByteArray × Bool) := (spec_ThreeOk.f k a0_0 a0_1 l0_2 l0_3 l0_4).bind fun t547 => (if t547 = true then ((spec_l10Copy.f a0_0 a0_1 l0_2 l0_3 l0_4).bind fun bt548 => (spec_EvictSmall.l0 k bt548.1 bt548.2.1 bt548.2.2.1 bt548.2.2.2.1 bt548.2.2.2.2)) else (some (0, 0, ([] : List (S122)), ([] : List (S122)), ([] : List Int), (⟨#[]⟩ : ByteArray), false)))
def spec_EvictSmall.T8 : Bool × List (List Nat × List Nat) := (true, [([], []), ([], []), ([1], [1]), ([2], [2]), ([0, 3, 3], [0, 3]), ([], []), ([5], [5]), ([4, 4, 0, 1, 2, 3, 4], [4]), ([6, 7, 0, 1, 2, 3, 4, 5, 6, 7], [6]), ([8, 0, 1, 2, 3, 4, 5, 6, 7, 8], [])])
def spec_EvictSmall.B8 : List Nat := [0, 0, 2, 6, 15, 0, 32, 31, 255, 511]
theorem spec_EvictSmall.tab8 : rtab .any (opsOf Try.f207 8) = spec_EvictSmall.T8 := by kernel_rfl
theorem spec_EvictSmall.bits8 : waitsOk spec_EvictSmall.T8.2 spec_EvictSmall.B8 = true := by kernel_rfl
theorem spec_EvictSmall.calls (k : Nat) (a0_0 : Int) (a0_1 : Int) (A0_2 : Option Addr) (c0_2 : Nat) (l0_2 : List (S122)) (A0_3 : Option Addr) (c0_3 : Nat) (l0_3 : List (S122)) (A0_4 : Option Addr) (c0_4 : Nat) (l0_4 : List Int) (r1 : Int) (r2 : Int) (r3 : List (S122)) (r4 : List (S122)) (r5 : List Int) (r6 : ByteArray) (r7 : Bool) (w : World) (hr0_2 : Kd.C k122 w A0_2 l0_2.length l0_2) (hc0_2 : l0_2.length ≤ c0_2) (hr0_3 : Kd.C k122 w A0_3 l0_3.length l0_3) (hc0_3 : l0_3.length ≤ c0_3) (hr0_4 : Kd.C (Kd.int .i64) w A0_4 l0_4.length l0_4) (hc0_4 : l0_4.length ≤ c0_4) (h : spec_EvictSmall.f k a0_0 a0_1 l0_2 l0_3 l0_4 = some (r1, r2, r3, r4, r5, r6, r7)) :
  Calls Try.prog 207 #[.agg #[.int .i64 a0_0, .int .i64 a0_1, .slice A0_2 l0_2.length c0_2, .slice A0_3 l0_3.length c0_3, .slice A0_4 l0_4.length c0_4]] w fun e w' => ∃ v2_ v3_ v4_ : Value, e = .returned (.tuple #[.agg #[.int .i64 r1, .int .i64 r2, v2_, v3_, v4_], .string r6, .bool r7]) ∧ Mem w [] w' [rowR k122 122 v2_ r3, rowR k122 122 v3_ r4, row (Kd.int .i64) 3 v4_ r5] := by
 have hu32 := Try.underlying32
 have hu122 := Try.underlying122
 have HR0_2 := Aside0.mk hr0_2
 have HC0_2 := Aside0.mk hc0_2
 clear hr0_2 hc0_2
 have HR0_3 := Aside0.mk hr0_3
 have HC0_3 := Aside0.mk hc0_3
 clear hr0_3 hc0_3
 have HR0_4 := Aside0.mk hr0_4
 have HC0_4 := Aside0.mk hc0_4
 clear hr0_4 hc0_4
 have HM := Mem.nil w
 have H := h
 clear h
 unfold spec_EvictSmall.f at H
 go_enter Try.func207, Try.ntmps207
 replace H := BN H; obtain ⟨t547, A5, H⟩ := H
 go_upto_if 9 with (first | ((with_reducible refine gN 1 rfl ?_); refine pB 1 32 [.int .i64 a0_0, .int .i64 a0_1, .slice A0_2 l0_2.length c0_2, .slice A0_3 l0_3.length c0_3, .slice A0_4 l0_4.length c0_4] HM rfl ?_; clear HM; intro gb545 w2 HM) | ((with_reducible refine gN 2 rfl ?_); refine pB 2 32 [.int .i64 0, .int .i64 0, .slice none 0 0, .slice none 0 0, .slice none 0 0] HM rfl ?_; clear HM; intro gb546 w3 HM; obtain ⟨_,_,_,_,_,_,_,_,_,_⟩ := bk5 (HM.bx 0 rfl)) | ((with_reducible refine gC 147 rfl ?_); refine pC (some 8) rfl #[.agg #[.int .i64 a0_0, .int .i64 a0_1, .slice A0_2 l0_2.length c0_2, .slice A0_3 l0_3.length c0_3, .slice A0_4 l0_4.length c0_4]] rfl Try.func147 (spec_ThreeOk.calls k a0_0 a0_1 _ _ l0_2 _ _ l0_3 _ _ l0_4 t547 _ (HM.came HR0_2.out) HC0_2.out (HM.came HR0_3.out) HC0_3.out (HM.came HR0_4.out) HC0_4.out A5.out) ?_; rintro e w6 ⟨rfl, hR⟩; refine ⟨_, rfl, ?_⟩; replace HM := HM.call hR; clear hR))
 replace HM := nzM HM
 replace H := IB H
 rcases H with ⟨c7, H⟩ | ⟨c7, H⟩
 ·subst c7
  replace H := BN H; obtain ⟨⟨t548, t549, t550, t553, t556⟩, A9, H⟩ := H
  have H' := Aside0.mk H
  clear H
  obtain ⟨_,_,_,_,_,_,_,_,_,_⟩ := bk5 (HM.bx 0 rfl)
  go_wp2_with (first | ((with_reducible refine gC 195 rfl ?_); refine pC (some 12) rfl #[.agg #[.int .i64 a0_0, .int .i64 a0_1, .slice A0_2 l0_2.length c0_2, .slice A0_3 l0_3.length c0_3, .slice A0_4 l0_4.length c0_4]] rfl Try.func195 (spec_l10Copy.calls a0_0 a0_1 _ _ l0_2 _ _ l0_3 _ _ l0_4 t548 t549 t550 t553 t556 _ (HM.came HR0_2.out) HC0_2.out (HM.came HR0_3.out) HC0_3.out (HM.came HR0_4.out) HC0_4.out A9.out) ?_; rintro e w10 ⟨v551, v554, v557, rfl, hR⟩; refine ⟨_, rfl, ?_⟩; replace HM := HM.call hR; clear hR) | ((with_reducible refine gN 5 rfl ?_); refine pB 5 32 [.int .i64 0, .int .i64 0, .slice none 0 0, .slice none 0 0, .slice none 0 0] HM rfl ?_; clear HM; intro gb559 w11 HM; obtain ⟨Xo12, ko12, rfl⟩ := HM.rdR 2 rfl; obtain ⟨Xo13, ko13, rfl⟩ := HM.rdR 3 rfl; obtain ⟨Xo14, ko14, rfl⟩ := HM.rdR 4 rfl) | ((with_reducible refine gS 5 rfl ?_); refine pS 5 5 0 [.int .i64 t548, .int .i64 t549, .slice Xo12 t550.length ko12, .slice Xo13 t553.length ko13, .slice Xo14 t556.length ko14] HM rfl rfl ?_; clear HM; intro w15 HM; replace HM := HM.toQ 4 rfl))
  go_loopg [] k (fun kq w' => ∃ (x547000_1 : Int) (x547001_1 : Int) (x560002_1 : List (S122)) (x560003_1 : List (S122)) (u560002 : Value) (u560003 : Value), Aside0 (spec_EvictSmall.l0 kq t548 t549 x560002_1 x560003_1 t556 = some (r1, r2, r3, r4, r5, r6, r7)) ∧ Aside0 (kq ≤ k) ∧ Mem w [] w' [rowR k122 122 u560002 x560002_1, rowR k122 122 u560003 x560003_1, row (Kd.int .i64) 3 (.slice Xo14 t556.length ko14) t556, box 32 gb545 [.int .i64 a0_0, .int .i64 a0_1, .slice A0_2 l0_2.length c0_2, .slice A0_3 l0_3.length c0_3, .slice A0_4 l0_4.length c0_4], box 32 gb546 [.int .i64 x547000_1, .int .i64 x547001_1, .slice none 0 0, .slice none 0 0, .slice none 0 0], box 32 gb559 [.int .i64 t548, .int .i64 t549, u560002, u560003, (.slice Xo14 t556.length ko14)]])
  case atStart => exact ⟨(0), (0), (t550), (t553), (.slice Xo12 t550.length ko12), (.slice Xo13 t553.length ko13), H', ⟨Nat.le_refl _⟩, (MD HM).pick [2, 3, 4, 0, 1, 5]⟩
  case round =>
   clear H' HM
   obtain ⟨x547000_1, x547001_1, x560002_1, x560003_1, u560002, u560003, HA, HK1, HM⟩ := hrel
   cases gk with
   | zero => exact absurd HA.out (by simp [spec_EvictSmall.l0])
   | succ k1 =>
    have H := HA.out
    clear HA
    simp only [spec_EvictSmall.l0] at H
    obtain ⟨_,_,_,_,_,_,_,_,_,_⟩ := bk5 (HM.bx 5 rfl)
    obtain ⟨Xo17, ko17, rfl⟩ := HM.rdR 0 rfl
    go_upto_if 16 with (fail)
    replace H := IT H; rcases H with ⟨c18, H⟩ | ⟨c18, H⟩
    ·replace c18 : (x560002_1.length : Int) > 0 := c18
     have c18b0 : decide (0 < (x560002_1.length : Int)) = true := decide_eq_true c18
     have c18b1 : decide (0 < x560002_1.length) = true := decide_eq_true (by omega)
     have c18b9 : decide (0 < x560002_1.length) = true := decide_eq_true (by omega)
     clear c18
     first|rw [c18b0]|rw [c18b9]|(simp only [i64_w, i32_w]; rw [c18b0])|skip
     replace H := GD H; obtain ⟨c19, H⟩ := H
     replace c19 : 0 < (x560002_1.length : Int) := c19
     have c19b0 : decide (0 < (x560002_1.length : Int)) = true := decide_eq_true c19
     have c19b1 : decide (0 < x560002_1.length) = true := decide_eq_true (by omega)
     have c19b9 : decide (0 < x560002_1.length) = true := decide_eq_true (by omega)
     clear c19
     replace H := BLt H; obtain ⟨y562, Ny562, H⟩ := H
     replace Ny562 := Aside0.mk Ny562
     replace H := GD H; obtain ⟨c24, H⟩ := H
     have c24b0 := eq_true c24
     have c24b1 : decide (1 ≤ (x560002_1.length : Int)) = true := decide_eq_true c24
     clear c24
     replace H := BLt H; obtain ⟨_, rfl, H⟩ := H
     replace H := GD H; obtain ⟨c26, H⟩ := H
     have LMc26 := Aside0.mk c26
     clear c26
     replace H := BLt H; obtain ⟨y569, Ny569, H⟩ := H
     replace Ny569 := Aside0.mk Ny569
     have p560 : 0 ≤ (0 : Int) := (by omega)
     have q560 : (0 : Int) < (x560002_1.length : Int) := of_decide_eq_true AS
     obtain ⟨ad560, e560, hx560_0, hx560_1, hx560_2⟩ := at_T122 (HM.CR 0 rfl).2.2 0 p560 q560
     cases e560
     have qi560 : (0 < x560002_1.length) = True := eq_true (by omega)
     (try rw [show ((0 : Int)).toNat = 0 from rfl] at hx560_0)
     (try rw [show 0 * 3 = 0 from rfl] at hx560_0)
     (try rw [Addr.add_zero'] at hx560_0)
     (try rw [show ((0 : Int)).toNat = 0 from rfl] at hx560_1)
     (try rw [show 0 * 3 = 0 from rfl] at hx560_1)
     (try rw [Addr.add_zero'] at hx560_1)
     (try rw [show ((0 : Int)).toNat = 0 from rfl] at hx560_2)
     (try rw [show 0 * 3 = 0 from rfl] at hx560_2)
     (try rw [Addr.add_zero'] at hx560_2)
     replace p560 := eq_true p560
     replace q560 := eq_true q560
     go_upto_if 29 with (first | ((with_reducible refine gN 6 rfl ?_); refine pB 6 122 [.string (⟨#[]⟩ : ByteArray), .string (⟨#[]⟩ : ByteArray), .int .i64 0] HM rfl ?_; clear HM; intro gb561 w20 HM) | ((with_reducible refine gS 6 rfl ?_); refine pS 6 6 0 [.string ((rd_T122 x560002_1 0).f0), .string ((rd_T122 x560002_1 0).f1), .int .i64 ((rd_T122 x560002_1 0).f2)] HM rfl rfl ?_; clear HM; intro w21 HM) | ((with_reducible refine gN 21 rfl ?_); refine pL 21 k122 122 ([] : List (S122)) [] (Reps.none _ _) HM rfl ?_; clear HM; intro v563 w22 HM; replace HM := HM.nm 7 rfl Ny562.out; obtain ⟨_,_,_,_,_,_,_,_,_,_⟩ := bk5 (HM.bx 5 rfl)) | ((with_reducible refine gate_sl (t := 29) rfl ?_); refine pRdf 29 122 k122 _ _ 1 x560002_1 (some ad560) ko17 rfl Try.underlying29 info122 (HM.CR 0 rfl).2.1 (by omega) (of_decide_eq_true AS) ?_; intro Yx25 bx25 hYx25 hbx25; have HYx25 := Aside0.mk hYx25; have HBx25 := Aside0.mk hbx25; clear hYx25 hbx25) | ((with_reducible refine gate_builtin (b := .append) (xs := #[.tmp 21, .tmp 24]) rfl ?_); refine pA 7 (.tmp 21) (.tmp 24) 29 122 k122 v563 y562 (x560002_1.drop 1) Yx25 ((x560002_1.drop 1).length) bx25 HM rfl Try.underlying29 info122 rfl (HYx25.out _ (HM.CR 0 rfl).2.2) (by have h_ := LMc26.out; omega) ?_; clear HM; intro v570 w27 HM; replace HM := HM.nm 7 rfl Ny569.out; obtain ⟨Xo28, ko28, rfl⟩ := HM.rdR 7 rfl) | ((with_reducible refine gS 26 rfl ?_); refine pS 5 26 2 [.slice Xo28 y569.length ko28] HM rfl rfl ?_; clear HM; intro w29 HM; obtain ⟨_,_,_,_,_,_⟩ := bk3 (HM.bx 6 rfl)))
     replace HM := nzM HM
     replace H := IT H; rcases H with ⟨c31, H⟩ | ⟨c31, H⟩
     ·have c31b0 : decide (((rd_T122 x560002_1 0).f2) ≤ 1) = true := decide_eq_true c31
      clear c31
      first|rw [c31b0]|(simp only [i64_w, i32_w]; rw [c31b0])|skip
      try go_wp2
      replace H := BN H; obtain ⟨t572, A32, H⟩ := H
      replace H := BN H; obtain ⟨⟨t573, t574, t575, t578, t581⟩, A33, H⟩ := H
      obtain ⟨Xo43, ko43, rfl⟩ := HM.rdR 1 rfl
      refine RGN 10 [0, 1, 2, 3, 4, 5, 6, 7, 8, 9] (fun a0 b a w' => ∃ (v576 : Value) (v579 : Value) (v582 : Value), a = putSel a0 b [(0, 30, .agg #[.int .i64 t548, .int .i64 t549, .slice Xo28 y569.length ko28, .slice Xo43 x560003_1.length ko43, .slice Xo14 t556.length ko14]), (1, 31, .pointer (some ⟨gb561, 0, none⟩)), (2, 32, .string ((rd_T122 x560002_1 0).f0)), (3, 33, .int .i64 t572), (4, 34, .agg #[.int .i64 t573, .int .i64 t574, v576, v579, v582]), (5, 35, .pointer (some ⟨gb561, 0, none⟩)), (6, 36, .string ((rd_T122 x560002_1 0).f0)), (8, 3, .string ((rd_T122 x560002_1 0).f0)), (9, 4, .bool true)] ∧ Mem w [] w' [rowR k122 122 (.slice (some ad560) x560002_1.length ko17) x560002_1, sel (b 4) (emp) (rowR k122 122 (.slice Xo43 x560003_1.length ko43) x560003_1), row (Kd.int .i64) 3 (.slice Xo14 t556.length ko14) t556, box 32 gb545 [.int .i64 a0_0, .int .i64 a0_1, .slice A0_2 l0_2.length c0_2, .slice A0_3 l0_3.length c0_3, .slice A0_4 l0_4.length c0_4], sel (b 7) (box 32 gb546 [.int .i64 t573, .int .i64 t574, v576, v579, v582]) (box 32 gb546 [.int .i64 x547000_1, .int .i64 x547001_1, .slice none 0 0, .slice none 0 0, .slice none 0 0]), box 32 gb559 [.int .i64 t548, .int .i64 t549, .slice Xo28 y569.length ko28, .slice Xo43 x560003_1.length ko43, .slice Xo14 t556.length ko14], box 122 gb561 [.string ((rd_T122 x560002_1 0).f0), .string ((rd_T122 x560002_1 0).f1), .int .i64 ((rd_T122 x560002_1 0).f2)], sel (b 4) (emp) (rowR k122 122 (.slice Xo28 y569.length ko28) y569), sel (b 4) (rowR k122 122 v576 t575) (emp), sel (b 4) (rowR k122 122 v579 t578) (emp), sel (b 4) (row (Kd.int .i64) 3 v582 t581) (emp)]) spec_EvictSmall.tab8 spec_EvictSmall.bits8 ?_ ?_ ?_
      ·exact ⟨.bool false, .bool false, .bool false, PS0' rfl _, (HM.drew.ems 3).pick [0, 1, 2, 3, 4, 5, 6, 7, 8, 9, 10]⟩
      ·clear HM
       refine SZ ?_ ?_
       ·rintro b a w ⟨v576, v579, v582, ha, HM⟩ hb hon hoff K hK
        replace ha := Aside0.mk ha
        obtain ⟨_,_,_,_,_,_,_,_,_,_⟩ := bk5 (HM.bx 5 rfl)
        have e5 := PG ha 5
        exact VL (.agg #[.int .i64 t548, .int .i64 t549, .slice Xo28 y569.length ko28, .slice Xo43 x560003_1.length ko43, .slice Xo14 t556.length ko14]) (hK.out _ _ ⟨v576, v579, v582, PUT ha 0 hb, HM⟩)
       refine SZ ?_ ?_
       ·rintro b a w ⟨v576, v579, v582, ha, HM⟩ hb hon hoff K hK
        replace ha := Aside0.mk ha
        have e6 := PG ha 6
        exact VL (.pointer (some ⟨gb561, 0, none⟩)) (hK.out _ _ ⟨v576, v579, v582, PUT ha 1 hb, HM⟩)
       refine SZ ?_ ?_
       ·rintro b a w ⟨v576, v579, v582, ha, HM⟩ hb hon hoff K hK
        replace ha := Aside0.mk ha
        obtain ⟨_,_,_,_,_,_⟩ := bk3 (HM.bx 6 rfl)
        have e31 := PE ha 1 hon
        exact VL (.string ((rd_T122 x560002_1 0).f0)) (hK.out _ _ ⟨v576, v579, v582, PUT ha 2 hb, HM⟩)
       refine SZ ?_ ?_
       ·rintro b a w ⟨v576, v579, v582, ha, HM⟩ hb hon hoff K hK
        replace ha := Aside0.mk ha
        have e32 := PE ha 2 hon
        refine ST (eC (some 33) rfl #[.string ((rd_T122 x560002_1 0).f0)] rfl Try.func197 (spec_Hash.calls k1 ((rd_T122 x560002_1 0).f0) t572 _ A32.out) ?_ (hargs := by (simp only [List.map_toArray, List.map_cons, List.map_nil, evc, eval_of e32]) <;> rfl))
        rintro e w46 ⟨rfl, hd⟩
        refine ⟨_, rfl, ?_⟩
        replace HM := HM.drawn hd
        clear hd
        exact hK.out _ _ ⟨v576, v579, v582, PUT ha 3 hb, (HM).pick [0, 1, 2, 3, 4, 5, 6, 7, 8, 9, 10]⟩
       refine SZ ?_ ?_
       ·rintro b a w ⟨v576, v579, v582, ha, HM⟩ hb hon hoff K hK
        replace ha := Aside0.mk ha
        replace HM := HM.sF 1 rfl hb
        replace HM := HM.sF 7 rfl hb
        have e30 := PE ha 0 hon
        have e33 := PE ha 3 hon
        refine ST (eC (some 34) rfl #[.agg #[.int .i64 t548, .int .i64 t549, .slice Xo28 y569.length ko28, .slice Xo43 x560003_1.length ko43, .slice Xo14 t556.length ko14], .int .i64 t572] rfl Try.func214 (spec_l10Haunt.calls k1 t548 t549 (.slice Xo28 y569.length ko28) y569 (.slice Xo43 x560003_1.length ko43) x560003_1 Xo14 ko14 t556 t572 t573 t574 t575 t578 t581 _ _ _ (HM.focus [0, 3, 4, 5, 6, 8, 9, 10] [7, 1, 2]) A33.out) ?_ (hargs := by (simp only [List.map_toArray, List.map_cons, List.map_nil, evc, eval_of e30, eval_of e33]) <;> rfl))
        rintro e w47 ⟨v576, v579, v582, rfl, hR⟩
        refine ⟨_, rfl, ?_⟩
        replace HM := nzM hR.unfocus
        clear hR
        exact hK.out _ _ ⟨v576, v579, v582, PUT ha 4 hb, ((HM.em.em.sF 2 rfl (hoff 7 rfl)).iF 2 rfl (hoff 7 rfl)).pick [0, 12, 11, 1, 2, 3, 4, 13, 8, 9, 10]⟩
       refine SZ ?_ ?_
       ·rintro b a w ⟨v576, v579, v582, ha, HM⟩ hb hon hoff K hK
        replace ha := Aside0.mk ha
        have e6 := PG ha 6
        exact VL (.pointer (some ⟨gb561, 0, none⟩)) (hK.out _ _ ⟨v576, v579, v582, PUT ha 5 hb, HM⟩)
       refine SZ ?_ ?_
       ·rintro b a w ⟨v576, v579, v582, ha, HM⟩ hb hon hoff K hK
        replace ha := Aside0.mk ha
        obtain ⟨_,_,_,_,_,_⟩ := bk3 (HM.bx 6 rfl)
        have e35 := PE ha 5 hon
        exact VL (.string ((rd_T122 x560002_1 0).f0)) (hK.out _ _ ⟨v576, v579, v582, PUT ha 6 hb, HM⟩)
       refine SZ ?_ ?_
       ·rintro b a w ⟨v576, v579, v582, ha, HM⟩ hb hon hoff K hK
        replace ha := Aside0.mk ha
        replace HM := HM.sF 4 rfl hb
        replace HM := HM.sT 8 rfl (hon 4 rfl)
        replace HM := HM.sT 9 rfl (hon 4 rfl)
        replace HM := HM.sT 10 rfl (hon 4 rfl)
        obtain ⟨Xo49, ko49, rfl⟩ := HM.rdR 8 rfl
        obtain ⟨Xo50, ko50, rfl⟩ := HM.rdR 9 rfl
        obtain ⟨Xo51, ko51, rfl⟩ := HM.rd 10 rfl
        have e2 := PG ha 2
        have e34 := PE ha 4 hon
        refine ST (eS 4 2 0 [.int .i64 t573, .int .i64 t574, .slice Xo49 t575.length ko49, .slice Xo50 t578.length ko50, .slice Xo51 t581.length ko51] HM rfl rfl ?_ (hp := (eval_of e2)) (hx := (by rw [eval_of e34]; rfl)))
        clear HM
        intro w52 HM
        exact hK.out _ _ ⟨.slice Xo49 t575.length ko49, .slice Xo50 t578.length ko50, .slice Xo51 t581.length ko51, PUS ha, (((HM.iT 8 rfl (hon 4 rfl)).iT 9 rfl (hon 4 rfl)).iT 10 rfl (hon 4 rfl)).pick [0, 1, 2, 3, 4, 5, 6, 7, 8, 9, 10]⟩
       refine SZ ?_ ?_
       ·rintro b a w ⟨v576, v579, v582, ha, HM⟩ hb hon hoff K hK
        replace ha := Aside0.mk ha
        have e36 := PE ha 6 hon
        exact VL (.string ((rd_T122 x560002_1 0).f0)) (hK.out _ _ ⟨v576, v579, v582, PUT ha 7 hb, HM⟩)
       refine SZ ?_ ?_
       ·rintro b a w ⟨v576, v579, v582, ha, HM⟩ hb hon hoff K hK
        replace ha := Aside0.mk ha
        exact VL (.bool true) (hK.out _ _ ⟨v576, v579, v582, PUT ha 8 hb, HM⟩)
       exact steps_nil
      rintro _ w53 ⟨v576, v579, v582, rfl, HM⟩
      replace HM := HM.sT 1 rfl rfl
      replace HM := HM.sT 4 rfl rfl
      replace HM := HM.sT 7 rfl rfl
      replace HM := HM.sT 8 rfl rfl
      replace HM := HM.sT 9 rfl rfl
      replace HM := HM.sT 10 rfl rfl
      replace HM := nzM HM
      simp only [putSel, if_true, Act.put, List.setIfInBounds_toArray, List.set_cons_zero, List.set_cons_succ, gt_iff_lt, ge_iff_le]
      simp only [Option.some.injEq, Prod.mk.injEq] at H
      obtain ⟨rfl, rfl, rfl, rfl, rfl, rfl, rfl⟩ := H
      go_wp2
      refine bodyPost_ret (results_ctt rfl _ _ gb546 32 #[.int .i64 t573, .int .i64 t574, v576, v579, v582] (0, 0) _ rfl (HM.bx 4 rfl) Try.underlying32 rfl (by kernel_rfl)) rfl ?_
      exact ⟨_, _, _, ER, (MD HM).pick [8, 9, 10]⟩
     ·have c31b0 : decide (((rd_T122 x560002_1 0).f2) ≤ 1) = false := decide_eq_false c31
      clear c31
      first|rw [c31b0]|(simp only [i64_w, i32_w]; rw [c31b0])|skip
      replace H := GD H; obtain ⟨c57, H⟩ := H
      have LMc57 := Aside0.mk c57
      clear c57
      have H' := Aside0.mk H
      clear H
      go_wp2_with (first | ((with_reducible refine gS 37 rfl ?_); refine pS 6 37 2 [.int .i64 0] HM rfl rfl ?_; clear HM; intro w54 HM; obtain ⟨_,_,_,_,_,_,_,_,_,_⟩ := bk5 (HM.bx 5 rfl); obtain ⟨_,_,_,_,_,_⟩ := bk3 (HM.bx 6 rfl)) | ((with_reducible refine gN 41 rfl ?_); refine pL 41 k122 122 [(⟨(rd_T122 x560002_1 0).f0, (rd_T122 x560002_1 0).f1, 0⟩ : S122)] [.string ((rd_T122 x560002_1 0).f0), .string ((rd_T122 x560002_1 0).f1), .int .i64 0] (Reps.c3 (show Kd.M k122 _ _ _ (⟨(rd_T122 x560002_1 0).f0, (rd_T122 x560002_1 0).f1, 0⟩ : S122) [.string ((rd_T122 x560002_1 0).f0), .string ((rd_T122 x560002_1 0).f1), .int .i64 0] from (k122_mkM _ _ _ (⟨(rd_T122 x560002_1 0).f0, (rd_T122 x560002_1 0).f1, 0⟩ : S122))) (Reps.none _ _)) HM rfl ?_; clear HM; intro v59 w58 HM; obtain ⟨Xv59, kv59, rfl⟩ := HM.rdR 8 rfl) | ((with_reducible refine gate_builtin (b := .append) (xs := #[.tmp 39, .tmp 41]) rfl ?_); refine pA 1 (.tmp 39) (.tmp 41) 29 122 k122 u560003 x560003_1 [(⟨(rd_T122 x560002_1 0).f0, (rd_T122 x560002_1 0).f1, 0⟩ : S122)] Xv59 ([(⟨(rd_T122 x560002_1 0).f0, (rd_T122 x560002_1 0).f1, 0⟩ : S122)].length) kv59 HM rfl Try.underlying29 info122 rfl (HM.CR 8 rfl).2.2 (by have h_ := LMc57.out; simp only [List.length_singleton]; omega) ?_; clear HM; intro v585 w60 HM; obtain ⟨Xo61, ko61, rfl⟩ := HM.rdR 1 rfl) | ((with_reducible refine gS 43 rfl ?_); refine pS 5 43 3 [.slice Xo61 (x560003_1 ++ [(⟨(rd_T122 x560002_1 0).f0, (rd_T122 x560002_1 0).f1, 0⟩ : S122)]).length ko61] HM rfl rfl ?_; clear HM; intro w62 HM))
      go_roundg k1
      case measure => have := HK1.out; omega
      case rel => exact ⟨(x547000_1), (x547001_1), (y569), ((x560003_1 ++ [(⟨(rd_T122 x560002_1 0).f0, (rd_T122 x560002_1 0).f1, 0⟩ : S122)])), (.slice Xo28 y569.length ko28), (.slice Xo61 (x560003_1 ++ [(⟨(rd_T122 x560002_1 0).f0, (rd_T122 x560002_1 0).f1, 0⟩ : S122)]).length ko61), H', ⟨by have := HK1.out; omega⟩, (MD HM).pick [7, 1, 2, 3, 4, 5]⟩
    ·replace c18 : ¬ ((x560002_1.length : Int) > 0) := c18
     have c18b0 : decide (0 < (x560002_1.length : Int)) = false := decide_eq_false c18
     have c18b1 : decide (0 < x560002_1.length) = false := decide_eq_false (by omega)
     have c18b9 : decide (0 < x560002_1.length) = false := decide_eq_false (by omega)
     clear c18
     first|rw [c18b0]|rw [c18b9]|(simp only [i64_w, i32_w]; rw [c18b0])|skip
     simp only [Option.some.injEq, Prod.mk.injEq] at H
     obtain ⟨rfl, rfl, rfl, rfl, rfl, rfl, rfl⟩ := H
     obtain ⟨Xo63, ko63, rfl⟩ := HM.rdR 1 rfl
     go_wp2_with (first | ((with_reducible refine gS 2 rfl ?_); refine pS 4 2 0 [.int .i64 t548, .int .i64 t549, .slice Xo17 x560002_1.length ko17, .slice Xo63 x560003_1.length ko63, .slice Xo14 t556.length ko14] HM rfl rfl ?_; clear HM; intro w64 HM))
     refine bodyPost_ret (results_ctt rfl _ _ gb546 32 #[.int .i64 t548, .int .i64 t549, .slice Xo17 x560002_1.length ko17, .slice Xo63 x560003_1.length ko63, .slice Xo14 t556.length ko14] (0, 0) _ rfl (HM.bx 4 rfl) Try.underlying32 rfl (by kernel_rfl)) rfl ?_
     exact ⟨_, _, _, ER, (MD HM).pick [0, 1, 2]⟩
 ·subst c7
  simp only [Option.some.injEq, Prod.mk.injEq] at H
  obtain ⟨rfl, rfl, rfl, rfl, rfl, rfl, rfl⟩ := H
  go_wp2_with (first | ((with_reducible refine gS 2 rfl ?_); refine pS 1 2 0 [.int .i64 0, .int .i64 0, .slice none 0 0, .slice none 0 0, .slice none 0 0] HM rfl rfl ?_; clear HM; intro w65 HM; replace HM := HM.nl k122 122; replace HM := HM.nl k122 122; replace HM := HM.nl (Kd.int .i64) 3; replace HM := HM.toQ 4 rfl))
  refine bodyPost_ret (results_ctt rfl _ _ gb546 32 #[.int .i64 0, .int .i64 0, .slice none 0 0, .slice none 0 0, .slice none 0 0] (0, 0) _ rfl (HM.bx 1 rfl) Try.underlying32 rfl (by kernel_rfl)) rfl ?_
  exact ⟨_, _, _, ER, (MD HM).pick [2, 3, 4]⟩
def spec_EvictMain.l0 : Nat → Int → Int → List (S122) → List (S122) → List Int → Option (Int × Int × (List (S122)) × (List (S122)) × List Int × ByteArray × Bool)
 | 0, _, _, _, _, _ => none
 | k + 1, x605000, x605001, x605002, x605003, x605004 => if (x605003.length : Int) > 0 then (if 0 < (x605003.length : Int) then ((some (([] : List (S122)) : List (S122))).bind fun y607 => (if 1 ≤ (x605003.length : Int) then ((some (x605003.drop 1 : List (S122))).bind fun y610 => (if y607.length + y610.length < 3518437208883 then ((some (y607 ++ y610 : List (S122))).bind fun y614 => (if ((rd_T122 x605003 0).f2) = 0 then (some (x605000, x605001, x605002, y614, x605004, (rd_T122 x605003 0).f0, true)) else (if y614.length < 3518437208883 then (spec_EvictMain.l0 k x605000 x605001 x605002 (y614 ++ [(⟨(rd_T122 x605003 0).f0, (rd_T122 x605003 0).f1, wrap64 (((rd_T122 x605003 0).f2) - 1)⟩ : S122)]) x605004) else (none)))) else (none))) else (none))) else (none)) else (some (x605000, x605001, x605002, x605003, x605004, (⟨#[]⟩ : ByteArray), false))
def spec_EvictMain.f (k : Nat) (a0_0 : Int) (a0_1 : Int) (l0_2 : List (S122)) (l0_3 : List (S122)) (l0_4 : List Int) : Option (Int × Int × (List (S122)) × (List (S122)) × List Int × ByteArray × Bool) := (spec_ThreeOk.f k a0_0 a0_1 l0_2 l0_3 l0_4).bind fun t592 => (if t592 = true then ((spec_l10Copy.f a0_0 a0_1 l0_2 l0_3 l0_4).bind fun bt593 => (spec_EvictMain.l0 k bt593.1 bt593.2.1 bt593.2.2.1 bt593.2.2.2.1 bt593.2.2.2.2)) else (some (0, 0, ([] : List (S122)), ([] : List (S122)), ([] : List Int), (⟨#[]⟩ : ByteArray), false)))
def spec_EvictMain.T8 : Bool × List (List Nat × List Nat) := (true, [([], []), ([], []), ([1], [1]), ([0, 0], [0]), ([2, 3, 0, 1, 2, 3], [2]), ([4, 0, 1, 2, 3, 4], [])])
def spec_EvictMain.B8 : List Nat := [0, 0, 2, 1, 15, 31]
theorem spec_EvictMain.tab8 : rtab .any (opsOf Try.f208 8) = spec_EvictMain.T8 := by kernel_rfl
theorem spec_EvictMain.bits8 : waitsOk spec_EvictMain.T8.2 spec_EvictMain.B8 = true := by kernel_rfl
theorem spec_EvictMain.calls (k : Nat) (a0_0 : Int) (a0_1 : Int) (A0_2 : Option Addr) (c0_2 : Nat) (l0_2 : List (S122)) (A0_3 : Option Addr) (c0_3 : Nat) (l0_3 : List (S122)) (A0_4 : Option Addr) (c0_4 : Nat) (l0_4 : List Int) (r1 : Int) (r2 : Int) (r3 : List (S122)) (r4 : List (S122)) (r5 : List Int) (r6 : ByteArray) (r7 : Bool) (w : World) (hr0_2 : Kd.C k122 w A0_2 l0_2.length l0_2) (hc0_2 : l0_2.length ≤ c0_2) (hr0_3 : Kd.C k122 w A0_3 l0_3.length l0_3) (hc0_3 : l0_3.length ≤ c0_3) (hr0_4 : Kd.C (Kd.int .i64) w A0_4 l0_4.length l0_4) (hc0_4 : l0_4.length ≤ c0_4) (h : spec_EvictMain.f k a0_0 a0_1 l0_2 l0_3 l0_4 = some (r1, r2, r3, r4, r5, r6, r7)) :
  Calls Try.prog 208 #[.agg #[.int .i64 a0_0, .int .i64 a0_1, .slice A0_2 l0_2.length c0_2, .slice A0_3 l0_3.length c0_3, .slice A0_4 l0_4.length c0_4]] w fun e w' => ∃ v2_ v3_ v4_ : Value, e = .returned (.tuple #[.agg #[.int .i64 r1, .int .i64 r2, v2_, v3_, v4_], .string r6, .bool r7]) ∧ Mem w [] w' [rowR k122 122 v2_ r3, rowR k122 122 v3_ r4, rowR (Kd.int .i64) 3 v4_ r5] := by
 have hu32 := Try.underlying32
 have hu122 := Try.underlying122
 have HR0_2 := Aside0.mk hr0_2
 have HC0_2 := Aside0.mk hc0_2
 clear hr0_2 hc0_2
 have HR0_3 := Aside0.mk hr0_3
 have HC0_3 := Aside0.mk hc0_3
 clear hr0_3 hc0_3
 have HR0_4 := Aside0.mk hr0_4
 have HC0_4 := Aside0.mk hc0_4
 clear hr0_4 hc0_4
 have HM := Mem.nil w
 have H := h
 clear h
 unfold spec_EvictMain.f at H
 go_enter Try.func208, Try.ntmps208
 replace H := BN H; obtain ⟨t592, A5, H⟩ := H
 go_upto_if 9 with (first | ((with_reducible refine gN 1 rfl ?_); refine pB 1 32 [.int .i64 a0_0, .int .i64 a0_1, .slice A0_2 l0_2.length c0_2, .slice A0_3 l0_3.length c0_3, .slice A0_4 l0_4.length c0_4] HM rfl ?_; clear HM; intro gb590 w2 HM) | ((with_reducible refine gN 2 rfl ?_); refine pB 2 32 [.int .i64 0, .int .i64 0, .slice none 0 0, .slice none 0 0, .slice none 0 0] HM rfl ?_; clear HM; intro gb591 w3 HM; obtain ⟨_,_,_,_,_,_,_,_,_,_⟩ := bk5 (HM.bx 0 rfl)) | ((with_reducible refine gC 147 rfl ?_); refine pC (some 8) rfl #[.agg #[.int .i64 a0_0, .int .i64 a0_1, .slice A0_2 l0_2.length c0_2, .slice A0_3 l0_3.length c0_3, .slice A0_4 l0_4.length c0_4]] rfl Try.func147 (spec_ThreeOk.calls k a0_0 a0_1 _ _ l0_2 _ _ l0_3 _ _ l0_4 t592 _ (HM.came HR0_2.out) HC0_2.out (HM.came HR0_3.out) HC0_3.out (HM.came HR0_4.out) HC0_4.out A5.out) ?_; rintro e w6 ⟨rfl, hR⟩; refine ⟨_, rfl, ?_⟩; replace HM := HM.call hR; clear hR))
 replace HM := nzM HM
 replace H := IB H
 rcases H with ⟨c7, H⟩ | ⟨c7, H⟩
 ·subst c7
  replace H := BN H; obtain ⟨⟨t593, t594, t595, t598, t601⟩, A9, H⟩ := H
  have H' := Aside0.mk H
  clear H
  obtain ⟨_,_,_,_,_,_,_,_,_,_⟩ := bk5 (HM.bx 0 rfl)
  go_wp2_with (first | ((with_reducible refine gC 195 rfl ?_); refine pC (some 12) rfl #[.agg #[.int .i64 a0_0, .int .i64 a0_1, .slice A0_2 l0_2.length c0_2, .slice A0_3 l0_3.length c0_3, .slice A0_4 l0_4.length c0_4]] rfl Try.func195 (spec_l10Copy.calls a0_0 a0_1 _ _ l0_2 _ _ l0_3 _ _ l0_4 t593 t594 t595 t598 t601 _ (HM.came HR0_2.out) HC0_2.out (HM.came HR0_3.out) HC0_3.out (HM.came HR0_4.out) HC0_4.out A9.out) ?_; rintro e w10 ⟨v596, v599, v602, rfl, hR⟩; refine ⟨_, rfl, ?_⟩; replace HM := HM.call hR; clear hR) | ((with_reducible refine gN 5 rfl ?_); refine pB 5 32 [.int .i64 0, .int .i64 0, .slice none 0 0, .slice none 0 0, .slice none 0 0] HM rfl ?_; clear HM; intro gb604 w11 HM; obtain ⟨Xo12, ko12, rfl⟩ := HM.rdR 2 rfl; obtain ⟨Xo13, ko13, rfl⟩ := HM.rdR 3 rfl; obtain ⟨Xo14, ko14, rfl⟩ := HM.rdR 4 rfl) | ((with_reducible refine gS 5 rfl ?_); refine pS 5 5 0 [.int .i64 t593, .int .i64 t594, .slice Xo12 t595.length ko12, .slice Xo13 t598.length ko13, .slice Xo14 t601.length ko14] HM rfl rfl ?_; clear HM; intro w15 HM))
  go_loopg [] k (fun kq w' => ∃ (x592000_1 : Int) (x592001_1 : Int) (x605003_1 : List (S122)) (u605003 : Value), Aside0 (spec_EvictMain.l0 kq t593 t594 t595 x605003_1 t601 = some (r1, r2, r3, r4, r5, r6, r7)) ∧ Aside0 (kq ≤ k) ∧ Mem w [] w' [rowR k122 122 (.slice Xo12 t595.length ko12) t595, rowR k122 122 u605003 x605003_1, rowR (Kd.int .i64) 3 (.slice Xo14 t601.length ko14) t601, box 32 gb590 [.int .i64 a0_0, .int .i64 a0_1, .slice A0_2 l0_2.length c0_2, .slice A0_3 l0_3.length c0_3, .slice A0_4 l0_4.length c0_4], box 32 gb591 [.int .i64 x592000_1, .int .i64 x592001_1, .slice none 0 0, .slice none 0 0, .slice none 0 0], box 32 gb604 [.int .i64 t593, .int .i64 t594, (.slice Xo12 t595.length ko12), u605003, (.slice Xo14 t601.length ko14)]])
  case atStart => exact ⟨(0), (0), (t598), (.slice Xo13 t598.length ko13), H', ⟨Nat.le_refl _⟩, (MD HM).pick [2, 3, 4, 0, 1, 5]⟩
  case round =>
   clear H' HM
   obtain ⟨x592000_1, x592001_1, x605003_1, u605003, HA, HK1, HM⟩ := hrel
   cases gk with
   | zero => exact absurd HA.out (by simp [spec_EvictMain.l0])
   | succ k1 =>
    have H := HA.out
    clear HA
    simp only [spec_EvictMain.l0] at H
    obtain ⟨_,_,_,_,_,_,_,_,_,_⟩ := bk5 (HM.bx 5 rfl)
    obtain ⟨Xo17, ko17, rfl⟩ := HM.rdR 1 rfl
    go_upto_if 16 with (fail)
    replace H := IT H; rcases H with ⟨c18, H⟩ | ⟨c18, H⟩
    ·replace c18 : (x605003_1.length : Int) > 0 := c18
     have c18b0 : decide (0 < (x605003_1.length : Int)) = true := decide_eq_true c18
     have c18b1 : decide (0 < x605003_1.length) = true := decide_eq_true (by omega)
     have c18b9 : decide (0 < x605003_1.length) = true := decide_eq_true (by omega)
     clear c18
     first|rw [c18b0]|rw [c18b9]|(simp only [i64_w, i32_w]; rw [c18b0])|skip
     replace H := GD H; obtain ⟨c19, H⟩ := H
     replace c19 : 0 < (x605003_1.length : Int) := c19
     have c19b0 : decide (0 < (x605003_1.length : Int)) = true := decide_eq_true c19
     have c19b1 : decide (0 < x605003_1.length) = true := decide_eq_true (by omega)
     have c19b9 : decide (0 < x605003_1.length) = true := decide_eq_true (by omega)
     clear c19
     replace H := BLt H; obtain ⟨y607, Ny607, H⟩ := H
     replace Ny607 := Aside0.mk Ny607
     replace H := GD H; obtain ⟨c24, H⟩ := H
     have c24b0 := eq_true c24
     have c24b1 : decide (1 ≤ (x605003_1.length : Int)) = true := decide_eq_true c24
     clear c24
     replace H := BLt H; obtain ⟨_, rfl, H⟩ := H
     replace H := GD H; obtain ⟨c26, H⟩ := H
     have LMc26 := Aside0.mk c26
     clear c26
     replace H := BLt H; obtain ⟨y614, Ny614, H⟩ := H
     replace Ny614 := Aside0.mk Ny614
     have p605 : 0 ≤ (0 : Int) := (by omega)
     have q605 : (0 : Int) < (x605003_1.length : Int) := of_decide_eq_true AS
     obtain ⟨ad605, e605, hx605_0, hx605_1, hx605_2⟩ := at_T122 (HM.CR 1 rfl).2.2 0 p605 q605
     cases e605
     have qi605 : (0 < x605003_1.length) = True := eq_true (by omega)
     (try rw [show ((0 : Int)).toNat = 0 from rfl] at hx605_0)
     (try rw [show 0 * 3 = 0 from rfl] at hx605_0)
     (try rw [Addr.add_zero'] at hx605_0)
     (try rw [show ((0 : Int)).toNat = 0 from rfl] at hx605_1)
     (try rw [show 0 * 3 = 0 from rfl] at hx605_1)
     (try rw [Addr.add_zero'] at hx605_1)
     (try rw [show ((0 : Int)).toNat = 0 from rfl] at hx605_2)
     (try rw [show 0 * 3 = 0 from rfl] at hx605_2)
     (try rw [Addr.add_zero'] at hx605_2)
     replace p605 := eq_true p605
     replace q605 := eq_true q605
     go_upto_if 29 with (first | ((with_reducible refine gN 6 rfl ?_); refine pB 6 122 [.string (⟨#[]⟩ : ByteArray), .string (⟨#[]⟩ : ByteArray), .int .i64 0] HM rfl ?_; clear HM; intro gb606 w20 HM) | ((with_reducible refine gS 6 rfl ?_); refine pS 6 6 0 [.string ((rd_T122 x605003_1 0).f0), .string ((rd_T122 x605003_1 0).f1), .int .i64 ((rd_T122 x605003_1 0).f2)] HM rfl rfl ?_; clear HM; intro w21 HM) | ((with_reducible refine gN 21 rfl ?_); refine pL 21 k122 122 ([] : List (S122)) [] (Reps.none _ _) HM rfl ?_; clear HM; intro v608 w22 HM; replace HM := HM.nm 7 rfl Ny607.out; obtain ⟨_,_,_,_,_,_,_,_,_,_⟩ := bk5 (HM.bx 5 rfl)) | ((with_reducible refine gate_sl (t := 29) rfl ?_); refine pRdf 29 122 k122 _ _ 1 x605003_1 (some ad605) ko17 rfl Try.underlying29 info122 (HM.CR 1 rfl).2.1 (by omega) (of_decide_eq_true AS) ?_; intro Yx25 bx25 hYx25 hbx25; have HYx25 := Aside0.mk hYx25; have HBx25 := Aside0.mk hbx25; clear hYx25 hbx25) | ((with_reducible refine gate_builtin (b := .append) (xs := #[.tmp 21, .tmp 24]) rfl ?_); refine pA 7 (.tmp 21) (.tmp 24) 29 122 k122 v608 y607 (x605003_1.drop 1) Yx25 ((x605003_1.drop 1).length) bx25 HM rfl Try.underlying29 info122 rfl (HYx25.out _ (HM.CR 1 rfl).2.2) (by have h_ := LMc26.out; omega) ?_; clear HM; intro v615 w27 HM; replace HM := HM.nm 7 rfl Ny614.out; obtain ⟨Xo28, ko28, rfl⟩ := HM.rdR 7 rfl) | ((with_reducible refine gS 26 rfl ?_); refine pS 5 26 3 [.slice Xo28 y614.length ko28] HM rfl rfl ?_; clear HM; intro w29 HM; obtain ⟨_,_,_,_,_,_⟩ := bk3 (HM.bx 6 rfl)))
     replace HM := nzM HM
     replace H := IT H; rcases H with ⟨c31, H⟩ | ⟨c31, H⟩
     ·have c31b0 : (((rd_T122 x605003_1 0).f2) == 0) = true := beq_iff_eq.mpr c31
      have c31b1 : (((rd_T122 x605003_1 0).f2) != 0) = false := bne_eq_false_iff_eq.mpr c31
      clear c31
      first|rw [c31b0]|(simp only [i64_w, i32_w]; rw [c31b0])|skip
      try go_wp2
      refine RGN 6 [0, 1, 2, 3, 4, 5] (fun a0 b a w' => a = putSel a0 b [(0, 30, .agg #[.int .i64 t593, .int .i64 t594, .slice Xo12 t595.length ko12, .slice Xo28 y614.length ko28, .slice Xo14 t601.length ko14]), (1, 31, .pointer (some ⟨gb606, 0, none⟩)), (2, 32, .string ((rd_T122 x605003_1 0).f0)), (4, 3, .string ((rd_T122 x605003_1 0).f0)), (5, 4, .bool true)] ∧ Mem w [] w' [rowR k122 122 (.slice Xo12 t595.length ko12) t595, rowR k122 122 (.slice (some ad605) x605003_1.length ko17) x605003_1, rowR (Kd.int .i64) 3 (.slice Xo14 t601.length ko14) t601, box 32 gb590 [.int .i64 a0_0, .int .i64 a0_1, .slice A0_2 l0_2.length c0_2, .slice A0_3 l0_3.length c0_3, .slice A0_4 l0_4.length c0_4], sel (b 3) (box 32 gb591 [.int .i64 t593, .int .i64 t594, .slice Xo12 t595.length ko12, .slice Xo28 y614.length ko28, .slice Xo14 t601.length ko14]) (box 32 gb591 [.int .i64 x592000_1, .int .i64 x592001_1, .slice none 0 0, .slice none 0 0, .slice none 0 0]), box 32 gb604 [.int .i64 t593, .int .i64 t594, .slice Xo12 t595.length ko12, .slice Xo28 y614.length ko28, .slice Xo14 t601.length ko14], box 122 gb606 [.string ((rd_T122 x605003_1 0).f0), .string ((rd_T122 x605003_1 0).f1), .int .i64 ((rd_T122 x605003_1 0).f2)], rowR k122 122 (.slice Xo28 y614.length ko28) y614]) spec_EvictMain.tab8 spec_EvictMain.bits8 ?_ ?_ ?_
      ·exact ⟨PS0' rfl _, (HM.drew).pick [0, 1, 2, 3, 4, 5, 6, 7]⟩
      ·clear HM
       refine SY ?_ ?_
       ·intro b a w ha HM hb hon hoff K hK
        obtain ⟨_,_,_,_,_,_,_,_,_,_⟩ := bk5 (HM.bx 5 rfl)
        have e5 := PG ha 5
        exact VL (.agg #[.int .i64 t593, .int .i64 t594, .slice Xo12 t595.length ko12, .slice Xo28 y614.length ko28, .slice Xo14 t601.length ko14]) (hK.out _ _ ⟨PUT ha 0 hb, HM⟩)
       refine SY ?_ ?_
       ·intro b a w ha HM hb hon hoff K hK
        have e6 := PG ha 6
        exact VL (.pointer (some ⟨gb606, 0, none⟩)) (hK.out _ _ ⟨PUT ha 1 hb, HM⟩)
       refine SY ?_ ?_
       ·intro b a w ha HM hb hon hoff K hK
        obtain ⟨_,_,_,_,_,_⟩ := bk3 (HM.bx 6 rfl)
        have e31 := PE ha 1 hon
        exact VL (.string ((rd_T122 x605003_1 0).f0)) (hK.out _ _ ⟨PUT ha 2 hb, HM⟩)
       refine SY ?_ ?_
       ·intro b a w ha HM hb hon hoff K hK
        replace HM := HM.sF 4 rfl hb
        have e2 := PG ha 2
        have e30 := PE ha 0 hon
        refine ST (eS 4 2 0 [.int .i64 t593, .int .i64 t594, .slice Xo12 t595.length ko12, .slice Xo28 y614.length ko28, .slice Xo14 t601.length ko14] HM rfl rfl ?_ (hp := (eval_of e2)) (hx := (by rw [eval_of e30]; rfl)))
        clear HM
        intro w37 HM
        exact hK.out _ _ ⟨PUS ha, (HM).pick [0, 1, 2, 3, 4, 5, 6, 7]⟩
       refine SY ?_ ?_
       ·intro b a w ha HM hb hon hoff K hK
        have e32 := PE ha 2 hon
        exact VL (.string ((rd_T122 x605003_1 0).f0)) (hK.out _ _ ⟨PUT ha 3 hb, HM⟩)
       refine SY ?_ ?_
       ·intro b a w ha HM hb hon hoff K hK
        exact VL (.bool true) (hK.out _ _ ⟨PUT ha 4 hb, HM⟩)
       exact steps_nil
      rintro _ w38 ⟨rfl, HM⟩
      replace HM := HM.sT 4 rfl rfl
      simp only [putSel, if_true, Act.put, List.setIfInBounds_toArray, List.set_cons_zero, List.set_cons_succ, gt_iff_lt, ge_iff_le]
      simp only [Option.some.injEq, Prod.mk.injEq] at H
      obtain ⟨rfl, rfl, rfl, rfl, rfl, rfl, rfl⟩ := H
      go_wp2
      refine bodyPost_ret (results_ctt rfl _ _ gb591 32 #[.int .i64 t593, .int .i64 t594, .slice Xo12 t595.length ko12, .slice Xo28 y614.length ko28, .slice Xo14 t601.length ko14] (0, 0) _ rfl (HM.bx 4 rfl) Try.underlying32 rfl (by kernel_rfl)) rfl ?_
      exact ⟨_, _, _, ER, (MD HM).pick [0, 7, 2]⟩
     ·have c31b0 : (((rd_T122 x605003_1 0).f2) == 0) = false := beq_eq_false_iff_ne.mpr c31
      have c31b1 : (((rd_T122 x605003_1 0).f2) != 0) = true := bne_iff_ne.mpr c31
      first|rw [c31b0]|(simp only [i64_w, i32_w]; rw [c31b0])|skip
      replace H := GD H; obtain ⟨c42, H⟩ := H
      have LMc42 := Aside0.mk c42
      clear c42
      have H' := Aside0.mk H
      clear H
      go_wp2_with (first | ((with_reducible refine gS 36 rfl ?_); refine pS 6 36 2 [.int .i64 (wrap64 (((rd_T122 x605003_1 0).f2) - 1))] HM rfl rfl ?_; clear HM; intro w39 HM; obtain ⟨_,_,_,_,_,_,_,_,_,_⟩ := bk5 (HM.bx 5 rfl); obtain ⟨_,_,_,_,_,_⟩ := bk3 (HM.bx 6 rfl)) | ((with_reducible refine gN 40 rfl ?_); refine pL 40 k122 122 [(⟨(rd_T122 x605003_1 0).f0, (rd_T122 x605003_1 0).f1, wrap64 (((rd_T122 x605003_1 0).f2) - 1)⟩ : S122)] [.string ((rd_T122 x605003_1 0).f0), .string ((rd_T122 x605003_1 0).f1), .int .i64 (wrap64 (((rd_T122 x605003_1 0).f2) - 1))] (Reps.c3 (show Kd.M k122 _ _ _ (⟨(rd_T122 x605003_1 0).f0, (rd_T122 x605003_1 0).f1, wrap64 (((rd_T122 x605003_1 0).f2) - 1)⟩ : S122) [.string ((rd_T122 x605003_1 0).f0), .string ((rd_T122 x605003_1 0).f1), .int .i64 (wrap64 (((rd_T122 x605003_1 0).f2) - 1))] from (k122_mkM _ _ _ (⟨(rd_T122 x605003_1 0).f0, (rd_T122 x605003_1 0).f1, wrap64 (((rd_T122 x605003_1 0).f2) - 1)⟩ : S122))) (Reps.none _ _)) HM rfl ?_; clear HM; intro v44 w43 HM; obtain ⟨Xv44, kv44, rfl⟩ := HM.rdR 8 rfl) | ((with_reducible refine gate_builtin (b := .append) (xs := #[.tmp 38, .tmp 40]) rfl ?_); refine pA 7 (.tmp 38) (.tmp 40) 29 122 k122 (.slice Xo28 y614.length ko28) y614 [(⟨(rd_T122 x605003_1 0).f0, (rd_T122 x605003_1 0).f1, wrap64 (((rd_T122 x605003_1 0).f2) - 1)⟩ : S122)] Xv44 ([(⟨(rd_T122 x605003_1 0).f0, (rd_T122 x605003_1 0).f1, wrap64 (((rd_T122 x605003_1 0).f2) - 1)⟩ : S122)].length) kv44 HM rfl Try.underlying29 info122 rfl (HM.CR 8 rfl).2.2 (by have h_ := LMc42.out; simp only [List.length_singleton]; omega) ?_; clear HM; intro v618 w45 HM; obtain ⟨Xo46, ko46, rfl⟩ := HM.rdR 7 rfl) | ((with_reducible refine gS 42 rfl ?_); refine pS 5 42 3 [.slice Xo46 (y614 ++ [(⟨(rd_T122 x605003_1 0).f0, (rd_T122 x605003_1 0).f1, wrap64 (((rd_T122 x605003_1 0).f2) - 1)⟩ : S122)]).length ko46] HM rfl rfl ?_; clear HM; intro w47 HM))
      go_roundg k1
      case measure => have := HK1.out; omega
      case rel => exact ⟨(x592000_1), (x592001_1), ((y614 ++ [(⟨(rd_T122 x605003_1 0).f0, (rd_T122 x605003_1 0).f1, wrap64 (((rd_T122 x605003_1 0).f2) - 1)⟩ : S122)])), (.slice Xo46 (y614 ++ [(⟨(rd_T122 x605003_1 0).f0, (rd_T122 x605003_1 0).f1, wrap64 (((rd_T122 x605003_1 0).f2) - 1)⟩ : S122)]).length ko46), H', ⟨by have := HK1.out; omega⟩, (MD HM).pick [0, 7, 2, 3, 4, 5]⟩
    ·replace c18 : ¬ ((x605003_1.length : Int) > 0) := c18
     have c18b0 : decide (0 < (x605003_1.length : Int)) = false := decide_eq_false c18
     have c18b1 : decide (0 < x605003_1.length) = false := decide_eq_false (by omega)
     have c18b9 : decide (0 < x605003_1.length) = false := decide_eq_false (by omega)
     clear c18
     first|rw [c18b0]|rw [c18b9]|(simp only [i64_w, i32_w]; rw [c18b0])|skip
     simp only [Option.some.injEq, Prod.mk.injEq] at H
     obtain ⟨rfl, rfl, rfl, rfl, rfl, rfl, rfl⟩ := H
     go_wp2_with (first | ((with_reducible refine gS 2 rfl ?_); refine pS 4 2 0 [.int .i64 t593, .int .i64 t594, .slice Xo12 t595.length ko12, .slice Xo17 x605003_1.length ko17, .slice Xo14 t601.length ko14] HM rfl rfl ?_; clear HM; intro w48 HM))
     refine bodyPost_ret (results_ctt rfl _ _ gb591 32 #[.int .i64 t593, .int .i64 t594, .slice Xo12 t595.length ko12, .slice Xo17 x605003_1.length ko17, .slice Xo14 t601.length ko14] (0, 0) _ rfl (HM.bx 4 rfl) Try.underlying32 rfl (by kernel_rfl)) rfl ?_
     exact ⟨_, _, _, ER, (MD HM).pick [0, 1, 2]⟩
 ·subst c7
  simp only [Option.some.injEq, Prod.mk.injEq] at H
  obtain ⟨rfl, rfl, rfl, rfl, rfl, rfl, rfl⟩ := H
  go_wp2_with (first | ((with_reducible refine gS 2 rfl ?_); refine pS 1 2 0 [.int .i64 0, .int .i64 0, .slice none 0 0, .slice none 0 0, .slice none 0 0] HM rfl rfl ?_; clear HM; intro w49 HM; replace HM := HM.nl k122 122; replace HM := HM.nl k122 122; replace HM := HM.nl (Kd.int .i64) 3))
  refine bodyPost_ret (results_ctt rfl _ _ gb591 32 #[.int .i64 0, .int .i64 0, .slice none 0 0, .slice none 0 0, .slice none 0 0] (0, 0) _ rfl (HM.bx 1 rfl) Try.underlying32 rfl (by kernel_rfl)) rfl ?_
  exact ⟨_, _, _, ER, (MD HM).pick [2, 3, 4]⟩
def spec_Evict.j0 : Nat → Bool → Int → Int → List (S122) → List (S122) → List Int → Option (Int × Int × (List (S122)) × (List (S122)) × List Int × ByteArray × Bool)
 | 0, _, _, _, _, _, _ => none
 | k + 1, x23, x624000, x624001, x624002, x624003, x624004 => if x23 = true then ((spec_EvictSmall.f k x624000 x624001 x624002 x624003 x624004).bind fun bt626 => (if bt626.2.2.2.2.2.2 = true then (some (bt626.1, bt626.2.1, bt626.2.2.1, bt626.2.2.2.1, bt626.2.2.2.2.1, bt626.2.2.2.2.2.1, true)) else ((spec_EvictMain.f k bt626.1 bt626.2.1 bt626.2.2.1 bt626.2.2.2.1 bt626.2.2.2.2.1).bind fun bt640 => (some (bt640.1, bt640.2.1, bt640.2.2.1, bt640.2.2.2.1, bt640.2.2.2.2.1, bt640.2.2.2.2.2.1, bt640.2.2.2.2.2.2))))) else ((spec_EvictMain.f k x624000 x624001 x624002 x624003 x624004).bind fun bt653 => (some (bt653.1, bt653.2.1, bt653.2.2.1, bt653.2.2.2.1, bt653.2.2.2.2.1, bt653.2.2.2.2.2.1, bt653.2.2.2.2.2.2)))
def spec_Evict.f (k : Nat) (a0_0 : Int) (a0_1 : Int) (l0_2 : List (S122)) (l0_3 : List (S122)) (l0_4 : List Int) : Option (Int × Int × (List (S122)) × (List (S122)) × List Int × ByteArray × Bool) := (spec_ThreeOk.f k a0_0 a0_1 l0_2 l0_3 l0_4).bind fun t625 => (if t625 = true then (if (l0_2.length : Int) ≥ a0_1 then (spec_Evict.j0 k true a0_0 a0_1 l0_2 l0_3 l0_4) else (spec_Evict.j0 k ((l0_3.length : Int) == 0) a0_0 a0_1 l0_2 l0_3 l0_4)) else (some (0, 0, ([] : List (S122)), ([] : List (S122)), ([] : List Int), (⟨#[]⟩ : ByteArray), false)))
theorem spec_Evict.calls (k : Nat) (a0_0 : Int) (a0_1 : Int) (A0_2 : Option Addr) (c0_2 : Nat) (l0_2 : List (S122)) (A0_3 : Option Addr) (c0_3 : Nat) (l0_3 : List (S122)) (A0_4 : Option Addr) (c0_4 : Nat) (l0_4 : List Int) (r1 : Int) (r2 : Int) (r3 : List (S122)) (r4 : List (S122)) (r5 : List Int) (r6 : ByteArray) (r7 : Bool) (w : World) (hr0_2 : Kd.C k122 w A0_2 l0_2.length l0_2) (hc0_2 : l0_2.length ≤ c0_2) (hr0_3 : Kd.C k122 w A0_3 l0_3.length l0_3) (hc0_3 : l0_3.length ≤ c0_3) (hr0_4 : Kd.C (Kd.int .i64) w A0_4 l0_4.length l0_4) (hc0_4 : l0_4.length ≤ c0_4) (h : spec_Evict.f k a0_0 a0_1 l0_2 l0_3 l0_4 = some (r1, r2, r3, r4, r5, r6, r7)) :
  Calls Try.prog 196 #[.agg #[.int .i64 a0_0, .int .i64 a0_1, .slice A0_2 l0_2.length c0_2, .slice A0_3 l0_3.length c0_3, .slice A0_4 l0_4.length c0_4]] w fun e w' => ∃ v2_ v3_ v4_ : Value, e = .returned (.tuple #[.agg #[.int .i64 r1, .int .i64 r2, v2_, v3_, v4_], .string r6, .bool r7]) ∧ Mem w [] w' [rowR k122 122 v2_ r3, rowR k122 122 v3_ r4, row (Kd.int .i64) 3 v4_ r5] := by
 have hu32 := Try.underlying32
 have HR0_2 := Aside0.mk hr0_2
 have HC0_2 := Aside0.mk hc0_2
 clear hr0_2 hc0_2
 have HR0_3 := Aside0.mk hr0_3
 have HC0_3 := Aside0.mk hc0_3
 clear hr0_3 hc0_3
 have HR0_4 := Aside0.mk hr0_4
 have HC0_4 := Aside0.mk hc0_4
 clear hr0_4 hc0_4
 have HM := Mem.nil w
 have H := h
 clear h
 unfold spec_Evict.f at H
 go_enter Try.func196, Try.ntmps196
 replace H := BN H; obtain ⟨t625, A5, H⟩ := H
 go_upto_if 10 with (first | ((with_reducible refine gN 1 rfl ?_); refine pB 1 32 [.int .i64 a0_0, .int .i64 a0_1, .slice A0_2 l0_2.length c0_2, .slice A0_3 l0_3.length c0_3, .slice A0_4 l0_4.length c0_4] HM rfl ?_; clear HM; intro gb623 w2 HM) | ((with_reducible refine gN 2 rfl ?_); refine pB 2 32 [.int .i64 0, .int .i64 0, .slice none 0 0, .slice none 0 0, .slice none 0 0] HM rfl ?_; clear HM; intro gb624 w3 HM; obtain ⟨_,_,_,_,_,_,_,_,_,_⟩ := bk5 (HM.bx 0 rfl)) | ((with_reducible refine gC 147 rfl ?_); refine pC (some 9) rfl #[.agg #[.int .i64 a0_0, .int .i64 a0_1, .slice A0_2 l0_2.length c0_2, .slice A0_3 l0_3.length c0_3, .slice A0_4 l0_4.length c0_4]] rfl Try.func147 (spec_ThreeOk.calls k a0_0 a0_1 _ _ l0_2 _ _ l0_3 _ _ l0_4 t625 _ (HM.came HR0_2.out) HC0_2.out (HM.came HR0_3.out) HC0_3.out (HM.came HR0_4.out) HC0_4.out A5.out) ?_; rintro e w6 ⟨rfl, hR⟩; refine ⟨_, rfl, ?_⟩; replace HM := HM.call hR; clear hR))
 replace HM := nzM HM
 replace H := IB H
 rcases H with ⟨c7, H⟩ | ⟨c7, H⟩
 ·subst c7
  have HC8 := Aside0.mk H
  clear H
  go_upto_region 3 with (fail)
  go_cut [23] (fun v23 wc => ∃ (kq : Nat) (x23_7 : Bool), v23 = .bool x23_7 ∧ Aside0 (spec_Evict.j0 kq x23_7 a0_0 a0_1 l0_2 l0_3 l0_4 = some (r1, r2, r3, r4, r5, r6, r7)) ∧ Aside0 (kq ≤ k) ∧ Mem w [] wc [box 32 gb623 [.int .i64 a0_0, .int .i64 a0_1, .slice A0_2 l0_2.length c0_2, .slice A0_3 l0_3.length c0_3, .slice A0_4 l0_4.length c0_4], box 32 gb624 [.int .i64 0, .int .i64 0, .slice none 0 0, .slice none 0 0, .slice none 0 0]])
  case first =>
   have H := HC8.out
   clear HC8
   replace H := IT H; rcases H with ⟨c10, H⟩ | ⟨c10, H⟩
   ·have c10b0 : decide (a0_1 ≤ (l0_2.length : Int)) = true := decide_eq_true c10
    clear c10
    have H' := Aside0.mk H
    clear H
    obtain ⟨_,_,_,_,_,_,_,_,_,_⟩ := bk5 (HM.bx 0 rfl)
    go_wp2
    go_meet
    case rel => exact ⟨_, (true), RS, H', ⟨by first | omega | exact Nat.le_refl _⟩, (MD HM).pick [0, 1]⟩
   ·have c10b0 : decide (a0_1 ≤ (l0_2.length : Int)) = false := decide_eq_false c10
    clear c10
    have H' := Aside0.mk H
    clear H
    obtain ⟨_,_,_,_,_,_,_,_,_,_⟩ := bk5 (HM.bx 0 rfl)
    go_wp2
    go_meet
    case rel => exact ⟨_, (((l0_3.length : Int) == 0)), RS, H', ⟨by first | omega | exact Nat.le_refl _⟩, (MD HM).pick [0, 1]⟩
  case rest =>
   clear HC8 HM
   obtain ⟨kq, x23_7, rfl, HA, HJ7, HM⟩ := hcut
   cases kq with
   | zero => exact absurd HA.out (by simp [spec_Evict.j0])
   | succ kj7 =>
    have H := HA.out
    clear HA
    simp only [spec_Evict.j0] at H
    go_upto_if 23 with (fail)
    replace H := IB H
    rcases H with ⟨c11, H⟩ | ⟨c11, H⟩
    ·subst c11
     replace H := BN H; obtain ⟨⟨t626, t627, t628, t631, t634, t637, t638⟩, A13, H⟩ := H
     obtain ⟨_,_,_,_,_,_,_,_,_,_⟩ := bk5 (HM.bx 0 rfl)
     go_upto_if 30 with (first | ((with_reducible refine gC 207 rfl ?_); refine pC (some 26) rfl #[.agg #[.int .i64 a0_0, .int .i64 a0_1, .slice A0_2 l0_2.length c0_2, .slice A0_3 l0_3.length c0_3, .slice A0_4 l0_4.length c0_4]] rfl Try.func207 (spec_EvictSmall.calls kj7 a0_0 a0_1 _ _ l0_2 _ _ l0_3 _ _ l0_4 t626 t627 t628 t631 t634 t637 t638 _ (HM.came HR0_2.out) HC0_2.out (HM.came HR0_3.out) HC0_3.out (HM.came HR0_4.out) HC0_4.out A13.out) ?_; rintro e w14 ⟨v629, v632, v635, rfl, hR⟩; refine ⟨_, rfl, ?_⟩; replace HM := HM.call hR; clear hR) | ((with_reducible refine gN 5 rfl ?_); refine pB 5 32 [.int .i64 0, .int .i64 0, .slice none 0 0, .slice none 0 0, .slice none 0 0] HM rfl ?_; clear HM; intro gb639 w15 HM; obtain ⟨Xo16, ko16, rfl⟩ := HM.rdR 2 rfl; obtain ⟨Xo17, ko17, rfl⟩ := HM.rdR 3 rfl; obtain ⟨Xo18, ko18, rfl⟩ := HM.rd 4 rfl) | ((with_reducible refine gS 5 rfl ?_); refine pS 5 5 0 [.int .i64 t626, .int .i64 t627, .slice Xo16 t628.length ko16, .slice Xo17 t631.length ko17, .slice Xo18 t634.length ko18] HM rfl rfl ?_; clear HM; intro w19 HM))
     replace HM := nzM HM
     replace H := IB H
     rcases H with ⟨c20, H⟩ | ⟨c20, H⟩
     ·subst c20
      simp only [Option.some.injEq, Prod.mk.injEq] at H
      obtain ⟨rfl, rfl, rfl, rfl, rfl, rfl, rfl⟩ := H
      obtain ⟨_,_,_,_,_,_,_,_,_,_⟩ := bk5 (HM.bx 5 rfl)
      go_wp2_with (first | ((with_reducible refine gS 2 rfl ?_); refine pS 1 2 0 [.int .i64 t626, .int .i64 t627, .slice Xo16 t628.length ko16, .slice Xo17 t631.length ko17, .slice Xo18 t634.length ko18] HM rfl rfl ?_; clear HM; intro w22 HM))
      refine bodyPost_ret (results_ctt rfl _ _ gb624 32 #[.int .i64 t626, .int .i64 t627, .slice Xo16 t628.length ko16, .slice Xo17 t631.length ko17, .slice Xo18 t634.length ko18] (0, 0) _ rfl (HM.bx 1 rfl) Try.underlying32 rfl (by kernel_rfl)) rfl ?_
      exact ⟨_, _, _, ER, (MD HM).pick [2, 3, 4]⟩
     ·subst c20
      replace H := BN H; obtain ⟨⟨t640, t641, t642, t645, t648, t651, t652⟩, A24, H⟩ := H
      simp only [Option.some.injEq, Prod.mk.injEq] at H
      obtain ⟨rfl, rfl, rfl, rfl, rfl, rfl, rfl⟩ := H
      obtain ⟨_,_,_,_,_,_,_,_,_,_⟩ := bk5 (HM.bx 5 rfl)
      go_wp2_with (first | ((with_reducible refine gC 208 rfl ?_); refine pC (some 34) rfl #[.agg #[.int .i64 t626, .int .i64 t627, .slice Xo16 t628.length ko16, .slice Xo17 t631.length ko17, .slice Xo18 t634.length ko18]] rfl Try.func208 (spec_EvictMain.calls kj7 t626 t627 _ _ t628 _ _ t631 _ _ t634 t640 t641 t642 t645 t648 t651 t652 _ (HM.CR 2 rfl).2.2 (HM.CR 2 rfl).2.1 (HM.CR 3 rfl).2.2 (HM.CR 3 rfl).2.1 (HM.C 4 rfl).2.2 (HM.C 4 rfl).2.1 A24.out) ?_; rintro e w25 ⟨v643, v646, v649, rfl, hR⟩; refine ⟨_, rfl, ?_⟩; replace HM := HM.call hR; clear hR; obtain ⟨Xo26, ko26, rfl⟩ := HM.rdR 6 rfl; obtain ⟨Xo27, ko27, rfl⟩ := HM.rdR 7 rfl; obtain ⟨Xo28, ko28, rfl⟩ := HM.rdR 8 rfl) | ((with_reducible refine gS 2 rfl ?_); refine pS 1 2 0 [.int .i64 t640, .int .i64 t641, .slice Xo26 t642.length ko26, .slice Xo27 t645.length ko27, .slice Xo28 t648.length ko28] HM rfl rfl ?_; clear HM; intro w29 HM; replace HM := HM.toQ 8 rfl))
      refine bodyPost_ret (results_ctt rfl _ _ gb624 32 #[.int .i64 t640, .int .i64 t641, .slice Xo26 t642.length ko26, .slice Xo27 t645.length ko27, .slice Xo28 t648.length ko28] (0, 0) _ rfl (HM.bx 1 rfl) Try.underlying32 rfl (by kernel_rfl)) rfl ?_
      exact ⟨_, _, _, ER, (MD HM).pick [6, 7, 8]⟩
    ·subst c11
     replace H := BN H; obtain ⟨⟨t653, t654, t655, t658, t661, t664, t665⟩, A31, H⟩ := H
     simp only [Option.some.injEq, Prod.mk.injEq] at H
     obtain ⟨rfl, rfl, rfl, rfl, rfl, rfl, rfl⟩ := H
     obtain ⟨_,_,_,_,_,_,_,_,_,_⟩ := bk5 (HM.bx 0 rfl)
     go_wp2_with (first | ((with_reducible refine gC 208 rfl ?_); refine pC (some 39) rfl #[.agg #[.int .i64 a0_0, .int .i64 a0_1, .slice A0_2 l0_2.length c0_2, .slice A0_3 l0_3.length c0_3, .slice A0_4 l0_4.length c0_4]] rfl Try.func208 (spec_EvictMain.calls kj7 a0_0 a0_1 _ _ l0_2 _ _ l0_3 _ _ l0_4 t653 t654 t655 t658 t661 t664 t665 _ (HM.came HR0_2.out) HC0_2.out (HM.came HR0_3.out) HC0_3.out (HM.came HR0_4.out) HC0_4.out A31.out) ?_; rintro e w32 ⟨v656, v659, v662, rfl, hR⟩; refine ⟨_, rfl, ?_⟩; replace HM := HM.call hR; clear hR; obtain ⟨Xo33, ko33, rfl⟩ := HM.rdR 2 rfl; obtain ⟨Xo34, ko34, rfl⟩ := HM.rdR 3 rfl; obtain ⟨Xo35, ko35, rfl⟩ := HM.rdR 4 rfl) | ((with_reducible refine gS 2 rfl ?_); refine pS 1 2 0 [.int .i64 t653, .int .i64 t654, .slice Xo33 t655.length ko33, .slice Xo34 t658.length ko34, .slice Xo35 t661.length ko35] HM rfl rfl ?_; clear HM; intro w36 HM; replace HM := HM.toQ 4 rfl))
     refine bodyPost_ret (results_ctt rfl _ _ gb624 32 #[.int .i64 t653, .int .i64 t654, .slice Xo33 t655.length ko33, .slice Xo34 t658.length ko34, .slice Xo35 t661.length ko35] (0, 0) _ rfl (HM.bx 1 rfl) Try.underlying32 rfl (by kernel_rfl)) rfl ?_
     exact ⟨_, _, _, ER, (MD HM).pick [2, 3, 4]⟩
 ·subst c7
  simp only [Option.some.injEq, Prod.mk.injEq] at H
  obtain ⟨rfl, rfl, rfl, rfl, rfl, rfl, rfl⟩ := H
  go_wp2_with (first | ((with_reducible refine gS 2 rfl ?_); refine pS 1 2 0 [.int .i64 0, .int .i64 0, .slice none 0 0, .slice none 0 0, .slice none 0 0] HM rfl rfl ?_; clear HM; intro w37 HM; replace HM := HM.nl k122 122; replace HM := HM.nl k122 122; replace HM := HM.nl (Kd.int .i64) 3; replace HM := HM.toQ 4 rfl))
  refine bodyPost_ret (results_ctt rfl _ _ gb624 32 #[.int .i64 0, .int .i64 0, .slice none 0 0, .slice none 0 0, .slice none 0 0] (0, 0) _ rfl (HM.bx 1 rfl) Try.underlying32 rfl (by kernel_rfl)) rfl ?_
  exact ⟨_, _, _, ER, (MD HM).pick [2, 3, 4]⟩
mutual
def spec_Put.j0 : Nat → ByteArray → ByteArray → Bool → Int → Int → List (S122) → List (S122) → List Int → Option (Int × Int × (List (S122)) × (List (S122)) × List Int × List ByteArray × Bool)
 | 0, _, _, _, _, _, _, _, _ => none
 | k + 1, x1, x2, x26, x670000, x670001, x670002, x670003, x670004 => if x26 = true then (some (0, 0, ([] : List (S122)), ([] : List (S122)), ([] : List Int), ([] : List ByteArray), false)) else ((spec_l10Copy.f x670000 x670001 x670002 x670003 x670004).bind fun bt673 => ((spec_l10Touch.f k bt673.1 bt673.2.1 bt673.2.2.1 bt673.2.2.2.1 bt673.2.2.2.2 x1 true x2).bind fun bt684 => (if bt684.2.2.2.2.2.2 = true then (some (bt684.1, bt684.2.1, bt684.2.2.1, bt684.2.2.2.1, bt684.2.2.2.2.1, ([] : List ByteArray), true)) else (spec_Put.l0 k x1 x2 (([] : List ByteArray)) bt684.1 bt684.2.1 bt684.2.2.1 bt684.2.2.2.1 bt684.2.2.2.2.1))))
def spec_Put.l0 : Nat → ByteArray → ByteArray → List ByteArray → Int → Int → List (S122) → List (S122) → List Int → Option (Int × Int × (List (S122)) × (List (S122)) × List Int × List ByteArray × Bool)
 | 0, _, _, _, _, _, _, _, _ => none
 | k + 1, x1, x2, x12, x698000, x698001, x698002, x698003, x698004 => if (wrap64 ((x698002.length : Int) + (x698003.length : Int))) ≥ x698000 then ((spec_Evict.f k x698000 x698001 x698002 x698003 x698004).bind fun bt701 => (if x12.length < 8796093022208 then (spec_Put.l0 k x1 x2 (x12 ++ [bt701.2.2.2.2.2.1]) bt701.1 bt701.2.1 bt701.2.2.1 bt701.2.2.2.1 bt701.2.2.2.2.1) else (none))) else ((spec_Hash.f k x1).bind fun t719 => ((spec_l03Has.f k x698004 t719).bind fun t720 => (if t720 = true then ((spec_Hash.f k x1).bind fun t721 => ((spec_l08But.f k x698004 t721).bind fun t722 => (if x698003.length < 3518437208883 then (some (x698000, x698001, x698002, (x698003 ++ [(⟨x1, x2, 0⟩ : S122)]), t722, x12, true)) else (none)))) else (if x698002.length < 3518437208883 then (some (x698000, x698001, (x698002 ++ [(⟨x1, x2, 0⟩ : S122)]), x698003, x698004, x12, true)) else (none)))))
end
def spec_Put.f (k : Nat) (a0_0 : Int) (a0_1 : Int) (l0_2 : List (S122)) (l0_3 : List (S122)) (l0_4 : List Int) (a1 : ByteArray) (a2 : ByteArray) : Option (Int × Int × (List (S122)) × (List (S122)) × List Int × List ByteArray × Bool) := (spec_ThreeOk.f k a0_0 a0_1 l0_2 l0_3 l0_4).bind fun t671 => (if t671 = true then ((spec_ItemOk.f k a1 a2 0).bind fun t672 => (spec_Put.j0 k a1 a2 (!t672) a0_0 a0_1 l0_2 l0_3 l0_4)) else (spec_Put.j0 k a1 a2 true a0_0 a0_1 l0_2 l0_3 l0_4))
def spec_Put.T12 : Bool × List (List Nat × List Nat) := (true, [([], []), ([0], [0]), ([], []), ([2], [2]), ([1, 3, 3], [1, 3])])
def spec_Put.B12 : List Nat := [0, 1, 0, 4, 15]
theorem spec_Put.tab12 : rtab .any (opsOf Try.f166 12) = spec_Put.T12 := by kernel_rfl
theorem spec_Put.bits12 : waitsOk spec_Put.T12.2 spec_Put.B12 = true := by kernel_rfl
def spec_Put.T13 : Bool × List (List Nat × List Nat) := (true, [([], []), ([0], [0]), ([], []), ([2], [2]), ([1, 3, 3], [1, 3]), ([0, 1, 2, 3, 4], []), ([5, 4, 4, 0, 1, 2, 3, 4], [4, 5])])
def spec_Put.B13 : List Nat := [0, 1, 0, 4, 15, 31, 63]
theorem spec_Put.tab13 : rtab .any (opsOf Try.f166 13) = spec_Put.T13 := by kernel_rfl
theorem spec_Put.bits13 : waitsOk spec_Put.T13.2 spec_Put.B13 = true := by kernel_rfl
theorem spec_Put.calls (k : Nat) (a0_0 : Int) (a0_1 : Int) (A0_2 : Option Addr) (c0_2 : Nat) (l0_2 : List (S122)) (A0_3 : Option Addr) (c0_3 : Nat) (l0_3 : List (S122)) (A0_4 : Option Addr) (c0_4 : Nat) (l0_4 : List Int) (a1 : ByteArray) (a2 : ByteArray) (r1 : Int) (r2 : Int) (r3 : List (S122)) (r4 : List (S122)) (r5 : List Int) (r6 : List ByteArray) (r7 : Bool) (w : World) (hr0_2 : Kd.C k122 w A0_2 l0_2.length l0_2) (hc0_2 : l0_2.length ≤ c0_2) (hr0_3 : Kd.C k122 w A0_3 l0_3.length l0_3) (hc0_3 : l0_3.length ≤ c0_3) (hr0_4 : Kd.C (Kd.int .i64) w A0_4 l0_4.length l0_4) (hc0_4 : l0_4.length ≤ c0_4) (h : spec_Put.f k a0_0 a0_1 l0_2 l0_3 l0_4 a1 a2 = some (r1, r2, r3, r4, r5, r6, r7)) :
  Calls Try.prog 166 #[.agg #[.int .i64 a0_0, .int .i64 a0_1, .slice A0_2 l0_2.length c0_2, .slice A0_3 l0_3.length c0_3, .slice A0_4 l0_4.length c0_4], .string a1, .string a2] w fun e w' => ∃ v2_ v3_ v4_ v5_ : Value, e = .returned (.tuple #[.agg #[.int .i64 r1, .int .i64 r2, v2_, v3_, v4_], v5_, .bool r7]) ∧ Mem w [] w' [rowR k122 122 v2_ r3, rowR k122 122 v3_ r4, row (Kd.int .i64) 3 v4_ r5, rowR Kd.string 9 v5_ r6] := by
 have hu32 := Try.underlying32
 have hu122 := Try.underlying122
 have HR0_2 := Aside0.mk hr0_2
 have HC0_2 := Aside0.mk hc0_2
 clear hr0_2 hc0_2
 have HR0_3 := Aside0.mk hr0_3
 have HC0_3 := Aside0.mk hc0_3
 clear hr0_3 hc0_3
 have HR0_4 := Aside0.mk hr0_4
 have HC0_4 := Aside0.mk hc0_4
 clear hr0_4 hc0_4
 have HM := Mem.nil w
 have H := h
 clear h
 unfold spec_Put.f at H
 go_enter Try.func166, Try.ntmps166
 have HC6 := Aside0.mk H
 clear H
 go_upto_region 1 with (first | ((with_reducible refine gN 3 rfl ?_); refine pB 3 32 [.int .i64 a0_0, .int .i64 a0_1, .slice A0_2 l0_2.length c0_2, .slice A0_3 l0_3.length c0_3, .slice A0_4 l0_4.length c0_4] HM rfl ?_; clear HM; intro gb669 w4 HM) | ((with_reducible refine gN 6 rfl ?_); refine pB 6 32 [.int .i64 0, .int .i64 0, .slice none 0 0, .slice none 0 0, .slice none 0 0] HM rfl ?_; clear HM; intro gb670 w5 HM))
 replace HM := nzM HM
 try simp only [Act.put, List.setIfInBounds_toArray, List.set_cons_zero, List.set_cons_succ]
 go_cut [26] (fun v26 wc => ∃ (kq : Nat) (x26_5 : Bool), v26 = .bool x26_5 ∧ Aside0 (spec_Put.j0 kq a1 a2 x26_5 a0_0 a0_1 l0_2 l0_3 l0_4 = some (r1, r2, r3, r4, r5, r6, r7)) ∧ Aside0 (kq ≤ k) ∧ Mem w [] wc [box 32 gb669 [.int .i64 a0_0, .int .i64 a0_1, .slice A0_2 l0_2.length c0_2, .slice A0_3 l0_3.length c0_3, .slice A0_4 l0_4.length c0_4], box 32 gb670 [.int .i64 0, .int .i64 0, .slice none 0 0, .slice none 0 0, .slice none 0 0]])
 case first =>
  have H := HC6.out
  clear HC6
  replace H := BN H; obtain ⟨t671, A8, H⟩ := H
  replace H := IB H
  rcases H with ⟨c10, H⟩ | ⟨c10, H⟩
  ·subst c10
   replace H := BN H; obtain ⟨t672, A11, H⟩ := H
   have H' := Aside0.mk H
   clear H
   obtain ⟨_,_,_,_,_,_,_,_,_,_⟩ := bk5 (HM.bx 0 rfl)
   go_wp2_with (first | ((with_reducible refine gC 147 rfl ?_); refine pC (some 18) rfl #[.agg #[.int .i64 a0_0, .int .i64 a0_1, .slice A0_2 l0_2.length c0_2, .slice A0_3 l0_3.length c0_3, .slice A0_4 l0_4.length c0_4]] rfl Try.func147 (spec_ThreeOk.calls k a0_0 a0_1 _ _ l0_2 _ _ l0_3 _ _ l0_4 true _ (HM.came HR0_2.out) HC0_2.out (HM.came HR0_3.out) HC0_3.out (HM.came HR0_4.out) HC0_4.out A8.out) ?_; rintro e w9 ⟨rfl, hR⟩; refine ⟨_, rfl, ?_⟩; replace HM := HM.call hR; clear hR) | ((with_reducible refine gC 149 rfl ?_); refine pC (some 24) rfl #[.agg #[.string a1, .string a2, .int .i64 0]] rfl Try.func149 (spec_ItemOk.calls k a1 a2 0 t672 _ A11.out) ?_; rintro e w12 ⟨rfl, hR⟩; refine ⟨_, rfl, ?_⟩; replace HM := HM.call hR; clear hR))
   go_meet
   case rel => exact ⟨_, (!t672), RS, H', ⟨by first | omega | exact Nat.le_refl _⟩, (MD HM).pick [0, 1]⟩
  ·subst c10
   have H' := Aside0.mk H
   clear H
   obtain ⟨_,_,_,_,_,_,_,_,_,_⟩ := bk5 (HM.bx 0 rfl)
   go_wp2_with (first | ((with_reducible refine gC 147 rfl ?_); refine pC (some 18) rfl #[.agg #[.int .i64 a0_0, .int .i64 a0_1, .slice A0_2 l0_2.length c0_2, .slice A0_3 l0_3.length c0_3, .slice A0_4 l0_4.length c0_4]] rfl Try.func147 (spec_ThreeOk.calls k a0_0 a0_1 _ _ l0_2 _ _ l0_3 _ _ l0_4 false _ (HM.came HR0_2.out) HC0_2.out (HM.came HR0_3.out) HC0_3.out (HM.came HR0_4.out) HC0_4.out A8.out) ?_; rintro e w9 ⟨rfl, hR⟩; refine ⟨_, rfl, ?_⟩; replace HM := HM.call hR; clear hR))
   go_meet
   case rel => exact ⟨_, (true), RS, H', ⟨by first | omega | exact Nat.le_refl _⟩, (MD HM).pick [0, 1]⟩
 case rest =>
  clear HC6 HM
  obtain ⟨kq, x26_5, rfl, HA, HJ5, HM⟩ := hcut
  cases kq with
  | zero => exact absurd HA.out (by simp [spec_Put.j0])
  | succ kj5 =>
   have H := HA.out
   clear HA
   simp only [spec_Put.j0] at H
   go_upto_if 26 with (fail)
   replace H := IB H
   rcases H with ⟨c13, H⟩ | ⟨c13, H⟩
   ·subst c13
    simp only [Option.some.injEq, Prod.mk.injEq] at H
    obtain ⟨rfl, rfl, rfl, rfl, rfl, rfl, rfl⟩ := H
    go_wp2_with (first | ((with_reducible refine gS 6 rfl ?_); refine pS 1 6 0 [.int .i64 0, .int .i64 0, .slice none 0 0, .slice none 0 0, .slice none 0 0] HM rfl rfl ?_; clear HM; intro w14 HM; replace HM := HM.nl k122 122; replace HM := HM.nl k122 122; replace HM := HM.nl (Kd.int .i64) 3; replace HM := HM.toQ 4 rfl; replace HM := HM.nl Kd.string 9))
    refine bodyPost_ret (results_ctt rfl _ _ gb670 32 #[.int .i64 0, .int .i64 0, .slice none 0 0, .slice none 0 0, .slice none 0 0] (0, 0) _ rfl (HM.bx 1 rfl) Try.underlying32 rfl (by kernel_rfl)) rfl ?_
    exact ⟨_, _, _, _, ER, (MD HM).pick [2, 3, 4, 5]⟩
   ·subst c13
    replace H := BN H; obtain ⟨⟨t673, t674, t675, t678, t681⟩, A16, H⟩ := H
    replace H := BN H; obtain ⟨⟨t684, t685, t686, t689, t692, t695, t696⟩, A18, H⟩ := H
    obtain ⟨_,_,_,_,_,_,_,_,_,_⟩ := bk5 (HM.bx 0 rfl)
    go_upto_if 37 with (first | ((with_reducible refine gC 195 rfl ?_); refine pC (some 30) rfl #[.agg #[.int .i64 a0_0, .int .i64 a0_1, .slice A0_2 l0_2.length c0_2, .slice A0_3 l0_3.length c0_3, .slice A0_4 l0_4.length c0_4]] rfl Try.func195 (spec_l10Copy.calls a0_0 a0_1 _ _ l0_2 _ _ l0_3 _ _ l0_4 t673 t674 t675 t678 t681 _ (HM.came HR0_2.out) HC0_2.out (HM.came HR0_3.out) HC0_3.out (HM.came HR0_4.out) HC0_4.out A16.out) ?_; rintro e w17 ⟨v676, v679, v682, rfl, hR⟩; refine ⟨_, rfl, ?_⟩; replace HM := HM.call hR; clear hR) | ((with_reducible refine gC 194 rfl ?_); refine pC (some 33) rfl #[.agg #[.int .i64 t673, .int .i64 t674, v676, v679, v682], .string a1, .bool true, .string a2] rfl Try.func194 (spec_l10Touch.calls kj5 t673 t674 v676 t675 v679 t678 v682 t681 a1 true a2 t684 t685 t686 t689 t692 t695 t696 _ _ _ (HM.focus [0, 1] [2, 3, 4]) A18.out) ?_; rintro e w19 ⟨v687, v690, v693, rfl, hR⟩; refine ⟨_, rfl, ?_⟩; replace HM := nzM hR.unfocus; clear hR) | ((with_reducible refine gN 9 rfl ?_); refine pB 9 32 [.int .i64 0, .int .i64 0, .slice none 0 0, .slice none 0 0, .slice none 0 0] HM rfl ?_; clear HM; intro gb697 w20 HM; obtain ⟨Xo21, ko21, rfl⟩ := HM.rdR 2 rfl; obtain ⟨Xo22, ko22, rfl⟩ := HM.rdR 3 rfl; obtain ⟨Xo23, ko23, rfl⟩ := HM.rdR 4 rfl) | ((with_reducible refine gS 9 rfl ?_); refine pS 5 9 0 [.int .i64 t684, .int .i64 t685, .slice Xo21 t686.length ko21, .slice Xo22 t689.length ko22, .slice Xo23 t692.length ko23] HM rfl rfl ?_; clear HM; intro w24 HM))
    replace HM := nzM HM
    replace H := IB H
    rcases H with ⟨c25, H⟩ | ⟨c25, H⟩
    ·subst c25
     simp only [Option.some.injEq, Prod.mk.injEq] at H
     obtain ⟨rfl, rfl, rfl, rfl, rfl, rfl, rfl⟩ := H
     obtain ⟨_,_,_,_,_,_,_,_,_,_⟩ := bk5 (HM.bx 5 rfl)
     go_wp2_with (first | ((with_reducible refine gS 6 rfl ?_); refine pS 1 6 0 [.int .i64 t684, .int .i64 t685, .slice Xo21 t686.length ko21, .slice Xo22 t689.length ko22, .slice Xo23 t692.length ko23] HM rfl rfl ?_; clear HM; intro w27 HM; replace HM := HM.toQ 4 rfl; replace HM := HM.nl Kd.string 9))
     refine bodyPost_ret (results_ctt rfl _ _ gb670 32 #[.int .i64 t684, .int .i64 t685, .slice Xo21 t686.length ko21, .slice Xo22 t689.length ko22, .slice Xo23 t692.length ko23] (0, 0) _ rfl (HM.bx 1 rfl) Try.underlying32 rfl (by kernel_rfl)) rfl ?_
     exact ⟨_, _, _, _, ER, (MD HM).pick [2, 3, 4, 6]⟩
    ·subst c25
     have H' := Aside0.mk H
     clear H
     go_wp2_with (first | ((with_reducible refine gN 39 rfl ?_); refine pL 39 Kd.string 9 ([] : List ByteArray) [] (Reps.none _ _) HM rfl ?_; clear HM; intro v699 w28 HM; replace HM := HM.toQ 4 rfl))
     go_loopg [12] kj5 (fun kq v12 w' => ∃ (x12_2 : List ByteArray) (x698000_2 : Int) (x698001_2 : Int) (x698002_2 : List (S122)) (x698003_2 : List (S122)) (x698004_2 : List Int) (u698002 : Value) (u698003 : Value) (u698004 : Value), Aside0 (spec_Put.l0 kq a1 a2 x12_2 x698000_2 x698001_2 x698002_2 x698003_2 x698004_2 = some (r1, r2, r3, r4, r5, r6, r7)) ∧ Aside0 (kq ≤ kj5) ∧ Mem w [] w' [rowR Kd.string 9 v12 x12_2, rowR k122 122 u698002 x698002_2, rowR k122 122 u698003 x698003_2, row (Kd.int .i64) 3 u698004 x698004_2, box 32 gb669 [.int .i64 a0_0, .int .i64 a0_1, .slice A0_2 l0_2.length c0_2, .slice A0_3 l0_3.length c0_3, .slice A0_4 l0_4.length c0_4], box 32 gb670 [.int .i64 0, .int .i64 0, .slice none 0 0, .slice none 0 0, .slice none 0 0], box 32 gb697 [.int .i64 x698000_2, .int .i64 x698001_2, u698002, u698003, u698004]])
     case atStart => exact ⟨((([] : List ByteArray))), (t684), (t685), (t686), (t689), (t692), (.slice Xo21 t686.length ko21), (.slice Xo22 t689.length ko22), (.slice Xo23 t692.length ko23), H', ⟨Nat.le_refl _⟩, (MD HM).pick [6, 2, 3, 4, 0, 1, 5]⟩
     case round =>
      clear H' HM
      obtain ⟨x12_2, x698000_2, x698001_2, x698002_2, x698003_2, x698004_2, u698002, u698003, u698004, HA, HK2, HM⟩ := hrel
      cases gk with
      | zero => exact absurd HA.out (by simp [spec_Put.l0])
      | succ k2 =>
       have H := HA.out
       clear HA
       simp only [spec_Put.l0] at H
       obtain ⟨_,_,_,_,_,_,_,_,_,_⟩ := bk5 (HM.bx 6 rfl)
       obtain ⟨Xo30, ko30, rfl⟩ := HM.rdR 1 rfl
       obtain ⟨Xo31, ko31, rfl⟩ := HM.rdR 2 rfl
       go_upto_if 49 with (fail)
       replace H := IT H; rcases H with ⟨c32, H⟩ | ⟨c32, H⟩
       ·have c32b0 : decide (x698000_2 ≤ (wrap64 ((x698002_2.length : Int) + (x698003_2.length : Int)))) = true := decide_eq_true c32
        clear c32
        first|rw [c32b0]|(simp only [i64_w, i32_w]; rw [c32b0])|skip
        replace H := BN H; obtain ⟨⟨t701, t702, t703, t706, t709, t712, t713⟩, A33, H⟩ := H
        replace H := GD H; obtain ⟨c43, H⟩ := H
        have LMc43 := Aside0.mk c43
        clear c43
        have H' := Aside0.mk H
        clear H
        obtain ⟨Xo35, ko35, rfl⟩ := HM.rd 3 rfl
        go_wp2_with (first | ((with_reducible refine gC 196 rfl ?_); refine pC (some 52) rfl #[.agg #[.int .i64 x698000_2, .int .i64 x698001_2, .slice Xo30 x698002_2.length ko30, .slice Xo31 x698003_2.length ko31, .slice Xo35 x698004_2.length ko35]] rfl Try.func196 (spec_Evict.calls k2 x698000_2 x698001_2 _ _ x698002_2 _ _ x698003_2 _ _ x698004_2 t701 t702 t703 t706 t709 t712 t713 _ (HM.CR 1 rfl).2.2 (HM.CR 1 rfl).2.1 (HM.CR 2 rfl).2.2 (HM.CR 2 rfl).2.1 (HM.C 3 rfl).2.2 (HM.C 3 rfl).2.1 A33.out) ?_; rintro e w34 ⟨v704, v707, v710, rfl, hR⟩; refine ⟨_, rfl, ?_⟩; replace HM := HM.call hR; clear hR) | ((with_reducible refine gN 13 rfl ?_); refine pB 13 32 [.int .i64 0, .int .i64 0, .slice none 0 0, .slice none 0 0, .slice none 0 0] HM rfl ?_; clear HM; intro gb714 w36 HM; obtain ⟨Xo37, ko37, rfl⟩ := HM.rdR 7 rfl; obtain ⟨Xo38, ko38, rfl⟩ := HM.rdR 8 rfl; obtain ⟨Xo39, ko39, rfl⟩ := HM.rd 9 rfl) | ((with_reducible refine gS 13 rfl ?_); refine pS 10 13 0 [.int .i64 t701, .int .i64 t702, .slice Xo37 t703.length ko37, .slice Xo38 t706.length ko38, .slice Xo39 t709.length ko39] HM rfl rfl ?_; clear HM; intro w40 HM; obtain ⟨_,_,_,_,_,_,_,_,_,_⟩ := bk5 (HM.bx 10 rfl)) | ((with_reducible refine gS 9 rfl ?_); refine pS 6 9 0 [.int .i64 t701, .int .i64 t702, .slice Xo37 t703.length ko37, .slice Xo38 t706.length ko38, .slice Xo39 t709.length ko39] HM rfl rfl ?_; clear HM; intro w42 HM) | ((with_reducible refine gN 59 rfl ?_); refine pL 59 Kd.string 9 [t712] [.string t712] (Reps.one (show Kd.M Kd.string _ _ _ t712 [.string t712] from rfl) (Reps.none _ _)) HM rfl ?_; clear HM; intro v45 w44 HM; obtain ⟨Xv45, kv45, rfl⟩ := HM.rdR 11 rfl) | ((with_reducible refine gate_builtin (b := .append) (xs := #[.tmp 57, .tmp 59]) rfl ?_); refine pA 0 (.tmp 57) (.tmp 59) 47 9 Kd.string u12 x12_2 [t712] Xv45 ([t712].length) kv45 HM rfl Try.underlying47 info9 rfl (HM.CR 11 rfl).2.2 (by have h_ := LMc43.out; simp only [List.length_singleton]; omega) ?_; clear HM; intro v716 w46 HM))
        go_roundg k2
        case measure => have := HJ5.out; have := HK2.out; omega
        case rel => exact ⟨((x12_2 ++ [t712])), (t701), (t702), (t703), (t706), (t709), (.slice Xo37 t703.length ko37), (.slice Xo38 t706.length ko38), (.slice Xo39 t709.length ko39), H', ⟨by have := HJ5.out; have := HK2.out; omega⟩, (MD HM).pick [0, 7, 8, 9, 4, 5, 6]⟩
       ·have c32b0 : decide (x698000_2 ≤ (wrap64 ((x698002_2.length : Int) + (x698003_2.length : Int)))) = false := decide_eq_false c32
        clear c32
        first|rw [c32b0]|(simp only [i64_w, i32_w]; rw [c32b0])|skip
        try go_wp2_with (first | ((with_reducible refine gN 16 rfl ?_); refine pB 16 122 [.string (⟨#[]⟩ : ByteArray), .string (⟨#[]⟩ : ByteArray), .int .i64 0] HM rfl ?_; clear HM; intro gb718 w47 HM) | ((with_reducible refine gS 16 rfl ?_); refine pS 7 16 0 [.string a1, .string a2, .int .i64 0] HM rfl rfl ?_; clear HM; intro w48 HM))
        replace H := BN H; obtain ⟨t719, A49, H⟩ := H
        replace H := BN H; obtain ⟨t720, A50, H⟩ := H
        have HF : Mem w ([] ++ [rowR Kd.string 9 u12 x12_2, rowR k122 122 (.slice Xo30 x698002_2.length ko30) x698002_2, rowR k122 122 (.slice Xo31 x698003_2.length ko31) x698003_2, box 32 gb669 [.int .i64 a0_0, .int .i64 a0_1, .slice A0_2 l0_2.length c0_2, .slice A0_3 l0_3.length c0_3, .slice A0_4 l0_4.length c0_4], box 32 gb670 [.int .i64 0, .int .i64 0, .slice none 0 0, .slice none 0 0, .slice none 0 0], box 122 gb718 [.string a1, .string a2, .int .i64 0]]) _ [row (Kd.int .i64) 3 u698004 x698004_2, box 32 gb697 [.int .i64 x698000_2, .int .i64 x698001_2, .slice Xo30 x698002_2.length ko30, .slice Xo31 x698003_2.length ko31, u698004]] := HM.focus [0, 1, 2, 4, 5, 7] [3, 6]
        clear HM
        generalize hFX55 : [] ++ [rowR Kd.string 9 u12 x12_2, rowR k122 122 (.slice Xo30 x698002_2.length ko30) x698002_2, rowR k122 122 (.slice Xo31 x698003_2.length ko31) x698003_2, box 32 gb669 [.int .i64 a0_0, .int .i64 a0_1, .slice A0_2 l0_2.length c0_2, .slice A0_3 l0_3.length c0_3, .slice A0_4 l0_4.length c0_4], box 32 gb670 [.int .i64 0, .int .i64 0, .slice none 0 0, .slice none 0 0, .slice none 0 0], box 122 gb718 [.string a1, .string a2, .int .i64 0]] = FX55 at HF
        have HM := HF
        clear HF
        obtain ⟨Xo60, ko60, rfl⟩ := HM.rd 0 rfl
        refine RGN 5 [0, 1, 2, 3, 4] (fun a0 b a w' => a = putSel a0 b [(0, 64, .pointer (some ⟨gb697, 4, none⟩)), (1, 65, .slice Xo60 x698004_2.length ko60), (2, 66, .string a1), (3, 67, .int .i64 t719), (4, 68, .bool t720)] ∧ Mem w FX55 w' [row (Kd.int .i64) 3 (.slice Xo60 x698004_2.length ko60) x698004_2, box 32 gb697 [.int .i64 x698000_2, .int .i64 x698001_2, .slice Xo30 x698002_2.length ko30, .slice Xo31 x698003_2.length ko31, .slice Xo60 x698004_2.length ko60]]) spec_Put.tab12 spec_Put.bits12 ?_ ?_ ?_
        ·exact ⟨PS0' rfl _, (HM.drew).pick [0, 1]⟩
        ·clear HM
         refine SY ?_ ?_
         ·intro b a w ha HM hb hon hoff K hK
          have e9 := PG ha 9
          exact VL (.pointer (some ⟨gb697, 4, none⟩)) (hK.out _ _ ⟨PUT ha 0 hb, HM⟩)
         refine SY ?_ ?_
         ·intro b a w ha HM hb hon hoff K hK
          obtain ⟨_,_,_,_,_,_,_,_,_,_⟩ := bk5 (HM.bx 1 rfl)
          have e64 := PE ha 0 hon
          exact VL (.slice Xo60 x698004_2.length ko60) (hK.out _ _ ⟨PUT ha 1 hb, HM⟩)
         refine SY ?_ ?_
         ·intro b a w ha HM hb hon hoff K hK
          have e1 := PG ha 1
          exact VL (.string a1) (hK.out _ _ ⟨PUT ha 2 hb, HM⟩)
         refine SY ?_ ?_
         ·intro b a w ha HM hb hon hoff K hK
          have e66 := PE ha 2 hon
          refine ST (eC (some 67) rfl #[.string a1] rfl Try.func197 (spec_Hash.calls k2 a1 t719 _ A49.out) ?_ (hargs := by (simp only [List.map_toArray, List.map_cons, List.map_nil, evc, eval_of e66]) <;> rfl))
          rintro e w62 ⟨rfl, hd⟩
          refine ⟨_, rfl, ?_⟩
          replace HM := HM.drawn hd
          clear hd
          exact hK.out _ _ ⟨PUT ha 3 hb, (HM).pick [0, 1]⟩
         refine SY ?_ ?_
         ·intro b a w ha HM hb hon hoff K hK
          have e65 := PE ha 1 hon
          have e67 := PE ha 3 hon
          refine ST (eC (some 68) rfl #[.slice Xo60 x698004_2.length ko60, .int .i64 t719] rfl Try.func188 (spec_l03Has.calls k2 _ _ x698004_2 t719 t720 _ (HM.C 0 rfl).2.2 (HM.C 0 rfl).2.1 A50.out) ?_ (hargs := by (simp only [List.map_toArray, List.map_cons, List.map_nil, evc, eval_of e65, eval_of e67]) <;> rfl))
          rintro e w63 ⟨rfl, hd⟩
          refine ⟨_, rfl, ?_⟩
          replace HM := HM.drawn hd
          clear hd
          exact hK.out _ _ ⟨PUT ha 4 hb, (HM).pick [0, 1]⟩
         exact steps_nil
        rintro _ w64 ⟨rfl, HM⟩
        simp only [putSel, if_true, Act.put, List.setIfInBounds_toArray, List.set_cons_zero, List.set_cons_succ, gt_iff_lt, ge_iff_le]
        rw [← hFX55] at HM
        clear hFX55
        replace HM := nzM HM.unfocus
        go_upto_if 68 with (fail)
        replace H := IB H
        rcases H with ⟨c65, H⟩ | ⟨c65, H⟩
        ·subst c65
         try go_wp2
         replace H := BN H; obtain ⟨t721, A66, H⟩ := H
         replace H := BN H; obtain ⟨t722, A67, H⟩ := H
         have HF : Mem w ([] ++ [rowR Kd.string 9 u12 x12_2, rowR k122 122 (.slice Xo30 x698002_2.length ko30) x698002_2, rowR k122 122 (.slice Xo31 x698003_2.length ko31) x698003_2, box 32 gb669 [.int .i64 a0_0, .int .i64 a0_1, .slice A0_2 l0_2.length c0_2, .slice A0_3 l0_3.length c0_3, .slice A0_4 l0_4.length c0_4], box 32 gb670 [.int .i64 0, .int .i64 0, .slice none 0 0, .slice none 0 0, .slice none 0 0], box 122 gb718 [.string a1, .string a2, .int .i64 0]]) _ [row (Kd.int .i64) 3 (.slice Xo60 x698004_2.length ko60) x698004_2, box 32 gb697 [.int .i64 x698000_2, .int .i64 x698001_2, .slice Xo30 x698002_2.length ko30, .slice Xo31 x698003_2.length ko31, .slice Xo60 x698004_2.length ko60]] := HM.focus [0, 1, 2, 3, 4, 5] [6, 7]
         clear HM
         generalize hFX73 : [] ++ [rowR Kd.string 9 u12 x12_2, rowR k122 122 (.slice Xo30 x698002_2.length ko30) x698002_2, rowR k122 122 (.slice Xo31 x698003_2.length ko31) x698003_2, box 32 gb669 [.int .i64 a0_0, .int .i64 a0_1, .slice A0_2 l0_2.length c0_2, .slice A0_3 l0_3.length c0_3, .slice A0_4 l0_4.length c0_4], box 32 gb670 [.int .i64 0, .int .i64 0, .slice none 0 0, .slice none 0 0, .slice none 0 0], box 122 gb718 [.string a1, .string a2, .int .i64 0]] = FX73 at HF
         have HM := HF
         clear HF
         refine RGN 7 [0, 1, 2, 3, 4, 5, 6] (fun a0 b a w' => ∃ (v723 : Value), a = putSel a0 b [(0, 69, .pointer (some ⟨gb697, 4, none⟩)), (1, 70, .slice Xo60 x698004_2.length ko60), (2, 71, .string a1), (3, 72, .int .i64 t721), (4, 73, v723), (5, 74, .pointer (some ⟨gb697, 4, none⟩))] ∧ Mem w FX73 w' [row (Kd.int .i64) 3 (.slice Xo60 x698004_2.length ko60) x698004_2, sel (b 6) (box 32 gb697 [.int .i64 x698000_2, .int .i64 x698001_2, .slice Xo30 x698002_2.length ko30, .slice Xo31 x698003_2.length ko31, v723]) (box 32 gb697 [.int .i64 x698000_2, .int .i64 x698001_2, .slice Xo30 x698002_2.length ko30, .slice Xo31 x698003_2.length ko31, .slice Xo60 x698004_2.length ko60]), sel (b 4) (rowR (Kd.int .i64) 3 v723 t722) (emp)]) spec_Put.tab13 spec_Put.bits13 ?_ ?_ ?_
         ·exact ⟨.bool false, PS0' rfl _, (HM.drew.ems 1).pick [0, 1, 2]⟩
         ·clear HM
          refine SZ ?_ ?_
          ·rintro b a w ⟨v723, ha, HM⟩ hb hon hoff K hK
           replace ha := Aside0.mk ha
           have e9 := PG ha 9
           exact VL (.pointer (some ⟨gb697, 4, none⟩)) (hK.out _ _ ⟨v723, PUT ha 0 hb, HM⟩)
          refine SZ ?_ ?_
          ·rintro b a w ⟨v723, ha, HM⟩ hb hon hoff K hK
           replace ha := Aside0.mk ha
           have HZ := HM
           replace HM := HM.sF 1 rfl (hoff 6 rfl)
           obtain ⟨_,_,_,_,_,_,_,_,_,_⟩ := bk5 (HM.bx 1 rfl)
           have e69 := PE ha 0 hon
           exact VL (.slice Xo60 x698004_2.length ko60) (hK.out _ _ ⟨v723, PUT ha 1 hb, HZ⟩)
          refine SZ ?_ ?_
          ·rintro b a w ⟨v723, ha, HM⟩ hb hon hoff K hK
           replace ha := Aside0.mk ha
           have e1 := PG ha 1
           exact VL (.string a1) (hK.out _ _ ⟨v723, PUT ha 2 hb, HM⟩)
          refine SZ ?_ ?_
          ·rintro b a w ⟨v723, ha, HM⟩ hb hon hoff K hK
           replace ha := Aside0.mk ha
           have e71 := PE ha 2 hon
           refine ST (eC (some 72) rfl #[.string a1] rfl Try.func197 (spec_Hash.calls k2 a1 t721 _ A66.out) ?_ (hargs := by (simp only [List.map_toArray, List.map_cons, List.map_nil, evc, eval_of e71]) <;> rfl))
           rintro e w80 ⟨rfl, hd⟩
           refine ⟨_, rfl, ?_⟩
           replace HM := HM.drawn hd
           clear hd
           exact hK.out _ _ ⟨v723, PUT ha 3 hb, (HM).pick [0, 1, 2]⟩
          refine SZ ?_ ?_
          ·rintro b a w ⟨v723, ha, HM⟩ hb hon hoff K hK
           replace ha := Aside0.mk ha
           have e70 := PE ha 1 hon
           have e72 := PE ha 3 hon
           refine ST (eC (some 73) rfl #[.slice Xo60 x698004_2.length ko60, .int .i64 t721] rfl Try.func198 (spec_l08But.calls k2 _ _ x698004_2 t721 t722 _ (HM.C 0 rfl).2.2 (HM.C 0 rfl).2.1 A67.out) ?_ (hargs := by (simp only [List.map_toArray, List.map_cons, List.map_nil, evc, eval_of e70, eval_of e72]) <;> rfl))
           rintro e w81 ⟨v723, rfl, hR⟩
           refine ⟨_, rfl, ?_⟩
           replace HM := HM.call hR
           clear hR
           exact hK.out _ _ ⟨v723, PUT ha 4 hb, ((HM.sF 1 rfl (hoff 6 rfl)).iF 1 rfl (hoff 6 rfl)).pick [0, 1, 3]⟩
          refine SZ ?_ ?_
          ·rintro b a w ⟨v723, ha, HM⟩ hb hon hoff K hK
           replace ha := Aside0.mk ha
           have e9 := PG ha 9
           exact VL (.pointer (some ⟨gb697, 4, none⟩)) (hK.out _ _ ⟨v723, PUT ha 5 hb, HM⟩)
          refine SZ ?_ ?_
          ·rintro b a w ⟨v723, ha, HM⟩ hb hon hoff K hK
           replace ha := Aside0.mk ha
           replace HM := HM.sF 1 rfl hb
           replace HM := HM.sT 2 rfl (hon 4 rfl)
           obtain ⟨Xo82, ko82, rfl⟩ := HM.rdR 2 rfl
           have e74 := PE ha 5 hon
           have e73 := PE ha 4 hon
           refine ST (eS 1 74 4 [.slice Xo82 t722.length ko82] HM rfl rfl ?_ (hp := (eval_of e74)) (hx := (by rw [eval_of e73]; rfl)))
           clear HM
           intro w83 HM
           exact hK.out _ _ ⟨.slice Xo82 t722.length ko82, PUS ha, (HM.iT 2 rfl (hon 4 rfl)).pick [0, 1, 2]⟩
          exact steps_nil
         rintro _ w84 ⟨v723, rfl, HM⟩
         replace HM := HM.sT 1 rfl rfl
         replace HM := HM.sT 2 rfl rfl
         simp only [putSel, if_true, Act.put, List.setIfInBounds_toArray, List.set_cons_zero, List.set_cons_succ, gt_iff_lt, ge_iff_le]
         rw [← hFX73] at HM
         clear hFX73
         replace HM := nzM HM.unfocus
         replace H := GD H; obtain ⟨c87, H⟩ := H
         have LMc87 := Aside0.mk c87
         clear c87
         simp only [Option.some.injEq, Prod.mk.injEq] at H
         obtain ⟨rfl, rfl, rfl, rfl, rfl, rfl, rfl⟩ := H
         obtain ⟨_,_,_,_,_,_,_,_,_,_⟩ := bk5 (HM.bx 7 rfl)
         obtain ⟨_,_,_,_,_,_⟩ := bk3 (HM.bx 5 rfl)
         go_wp2_with (first | ((with_reducible refine gN 78 rfl ?_); refine pL 78 k122 122 [(⟨a1, a2, 0⟩ : S122)] [.string a1, .string a2, .int .i64 0] (Reps.c3 (show Kd.M k122 _ _ _ (⟨a1, a2, 0⟩ : S122) [.string a1, .string a2, .int .i64 0] from (k122_mkM _ _ _ (⟨a1, a2, 0⟩ : S122))) (Reps.none _ _)) HM rfl ?_; clear HM; intro v89 w88 HM; obtain ⟨Xv89, kv89, rfl⟩ := HM.rdR 9 rfl) | ((with_reducible refine gate_builtin (b := .append) (xs := #[.tmp 76, .tmp 78]) rfl ?_); refine pA 2 (.tmp 76) (.tmp 78) 29 122 k122 (.slice Xo31 x698003_2.length ko31) x698003_2 [(⟨a1, a2, 0⟩ : S122)] Xv89 ([(⟨a1, a2, 0⟩ : S122)].length) kv89 HM rfl Try.underlying29 info122 rfl (HM.CR 9 rfl).2.2 (by have h_ := LMc87.out; simp only [List.length_singleton]; omega) ?_; clear HM; intro v726 w90 HM; obtain ⟨Xo91, ko91, rfl⟩ := HM.rdR 2 rfl) | ((with_reducible refine gS 80 rfl ?_); refine pS 7 80 3 [.slice Xo91 (x698003_2 ++ [(⟨a1, a2, 0⟩ : S122)]).length ko91] HM rfl rfl ?_; clear HM; intro w92 HM; obtain ⟨_,_,_,_,_,_,_,_,_,_⟩ := bk5 (HM.bx 7 rfl); obtain ⟨Xo94, ko94, rfl⟩ := HM.rdR 8 rfl) | ((with_reducible refine gS 6 rfl ?_); refine pS 4 6 0 [.int .i64 x698000_2, .int .i64 x698001_2, .slice Xo30 x698002_2.length ko30, .slice Xo91 (x698003_2 ++ [(⟨a1, a2, 0⟩ : S122)]).length ko91, .slice Xo94 t722.length ko94] HM rfl rfl ?_; clear HM; intro w95 HM; replace HM := HM.toQ 8 rfl))
         refine bodyPost_ret (results_ctt rfl _ _ gb670 32 #[.int .i64 x698000_2, .int .i64 x698001_2, .slice Xo30 x698002_2.length ko30, .slice Xo91 (x698003_2 ++ [(⟨a1, a2, 0⟩ : S122)]).length ko91, .slice Xo94 t722.length ko94] (0, 0) _ rfl (HM.bx 4 rfl) Try.underlying32 rfl (by kernel_rfl)) rfl ?_
         exact ⟨_, _, _, _, ER, (MD HM).pick [1, 2, 8, 0]⟩
        ·subst c65
         replace H := GD H; obtain ⟨c98, H⟩ := H
         have LMc98 := Aside0.mk c98
         clear c98
         simp only [Option.some.injEq, Prod.mk.injEq] at H
         obtain ⟨rfl, rfl, rfl, rfl, rfl, rfl, rfl⟩ := H
         obtain ⟨_,_,_,_,_,_,_,_,_,_⟩ := bk5 (HM.bx 7 rfl)
         obtain ⟨_,_,_,_,_,_⟩ := bk3 (HM.bx 5 rfl)
         go_wp2_with (first | ((with_reducible refine gN 84 rfl ?_); refine pL 84 k122 122 [(⟨a1, a2, 0⟩ : S122)] [.string a1, .string a2, .int .i64 0] (Reps.c3 (show Kd.M k122 _ _ _ (⟨a1, a2, 0⟩ : S122) [.string a1, .string a2, .int .i64 0] from (k122_mkM _ _ _ (⟨a1, a2, 0⟩ : S122))) (Reps.none _ _)) HM rfl ?_; clear HM; intro v100 w99 HM; obtain ⟨Xv100, kv100, rfl⟩ := HM.rdR 8 rfl) | ((with_reducible refine gate_builtin (b := .append) (xs := #[.tmp 82, .tmp 84]) rfl ?_); refine pA 1 (.tmp 82) (.tmp 84) 29 122 k122 (.slice Xo30 x698002_2.length ko30) x698002_2 [(⟨a1, a2, 0⟩ : S122)] Xv100 ([(⟨a1, a2, 0⟩ : S122)].length) kv100 HM rfl Try.underlying29 info122 rfl (HM.CR 8 rfl).2.2 (by have h_ := LMc98.out; simp only [List.length_singleton]; omega) ?_; clear HM; intro v729 w101 HM; obtain ⟨Xo102, ko102, rfl⟩ := HM.rdR 1 rfl) | ((with_reducible refine gS 86 rfl ?_); refine pS 7 86 2 [.slice Xo102 (x698002_2 ++ [(⟨a1, a2, 0⟩ : S122)]).length ko102] HM rfl rfl ?_; clear HM; intro w103 HM; obtain ⟨_,_,_,_,_,_,_,_,_,_⟩ := bk5 (HM.bx 7 rfl)) | ((with_reducible refine gS 6 rfl ?_); refine pS 4 6 0 [.int .i64 x698000_2, .int .i64 x698001_2, .slice Xo102 (x698002_2 ++ [(⟨a1, a2, 0⟩ : S122)]).length ko102, .slice Xo31 x698003_2.length ko31, .slice Xo60 x698004_2.length ko60] HM rfl rfl ?_; clear HM; intro w105 HM))
         refine bodyPost_ret (results_ctt rfl _ _ gb670 32 #[.int .i64 x698000_2, .int .i64 x698001_2, .slice Xo102 (x698002_2 ++ [(⟨a1, a2, 0⟩ : S122)]).length ko102, .slice Xo31 x698003_2.length ko31, .slice Xo60 x698004_2.length ko60] (0, 0) _ rfl (HM.bx 4 rfl) Try.underlying32 rfl (by kernel_rfl)) rfl ?_
         exact ⟨_, _, _, _, ER, (MD HM).pick [1, 2, 6, 0]⟩
def spec_l10Val.f (s0_0 : List Int) (s0_1 : Int) (s0_2 : Int) : Option (ByteArray × Int × Int) := (spec_l01Of.f s0_0 s0_1 s0_2 (([(⟨#[49]⟩ : ByteArray), (⟨#[50]⟩ : ByteArray), (⟨#[51]⟩ : ByteArray), (⟨#[]⟩ : ByteArray), (⟨#[120]⟩ : ByteArray)] : List ByteArray))).bind fun bt739 => (some (bt739.1, bt739.2.1, bt739.2.2))
theorem spec_l10Val.calls (g : Nat) (A0_0 : Option Addr) (c0_0 : Nat) (s0_0 : List Int) (s0_1 : Int) (s0_2 : Int) (r1 : ByteArray) (r2 : Int) (r3 : Int) (w0 w : World) (F : List SP) (hrs0_0 : Kd.C (Kd.int .u8) w0 A0_0 s0_0.length s0_0) (hcs0_0 : s0_0.length ≤ c0_0) (hM : Mem w0 F w [box 110 g [.slice A0_0 s0_0.length c0_0, .int .i64 s0_1, .int .i64 s0_2]]) (h : spec_l10Val.f s0_0 s0_1 s0_2 = some (r1, r2, r3)) :
  Calls Try.prog 167 #[.pointer (some ⟨g, 0, none⟩)] w fun e w' => e = .returned (.string r1) ∧ Mem w0 F w' [box 110 g [.slice A0_0 s0_0.length c0_0, .int .i64 r2, .int .i64 r3]] := by
 have HRs0_0 := Aside0.mk hrs0_0
 have HCs0_0 := Aside0.mk hcs0_0
 clear hrs0_0 hcs0_0
 have HM := hM
 clear hM
 have H := h
 clear h
 unfold spec_l10Val.f at H
 go_enter Try.func167, Try.ntmps167
 replace H := BN H; obtain ⟨⟨t739, t740, t741⟩, A3, H⟩ := H
 simp only [Option.some.injEq, Prod.mk.injEq] at H
 obtain ⟨rfl, rfl, rfl⟩ := H
 go_wp2_with (first | ((with_reducible refine gN 4 rfl ?_); refine pL 4 Kd.string 9 ([(⟨#[49]⟩ : ByteArray), (⟨#[50]⟩ : ByteArray), (⟨#[51]⟩ : ByteArray), (⟨#[]⟩ : ByteArray), (⟨#[120]⟩ : ByteArray)] : List ByteArray) [.string (⟨#[49]⟩ : ByteArray), .string (⟨#[50]⟩ : ByteArray), .string (⟨#[51]⟩ : ByteArray), .string (⟨#[]⟩ : ByteArray), .string (⟨#[120]⟩ : ByteArray)] (Reps.one (show Kd.M Kd.string _ _ _ (⟨#[49]⟩ : ByteArray) [.string (⟨#[49]⟩ : ByteArray)] from rfl) (Reps.one (show Kd.M Kd.string _ _ _ (⟨#[50]⟩ : ByteArray) [.string (⟨#[50]⟩ : ByteArray)] from rfl) (Reps.one (show Kd.M Kd.string _ _ _ (⟨#[51]⟩ : ByteArray) [.string (⟨#[51]⟩ : ByteArray)] from rfl) (Reps.one (show Kd.M Kd.string _ _ _ (⟨#[]⟩ : ByteArray) [.string (⟨#[]⟩ : ByteArray)] from rfl) (Reps.one (show Kd.M Kd.string _ _ _ (⟨#[120]⟩ : ByteArray) [.string (⟨#[120]⟩ : ByteArray)] from rfl) (Reps.none _ _)))))) HM rfl ?_; clear HM; intro v737 w2 HM; obtain ⟨Xo5, ko5, rfl⟩ := HM.rdR 1 rfl; replace HM := HM.toQ 1 rfl) | ((with_reducible refine gC 175 rfl ?_); refine pC (some 5) rfl #[.pointer (some ⟨g, 0, none⟩), .slice Xo5 (([(⟨#[49]⟩ : ByteArray), (⟨#[50]⟩ : ByteArray), (⟨#[51]⟩ : ByteArray), (⟨#[]⟩ : ByteArray), (⟨#[120]⟩ : ByteArray)] : List ByteArray)).length ko5] rfl Try.func175 (spec_l01Of.calls g A0_0 c0_0 s0_0 s0_1 s0_2 Xo5 ko5 (([(⟨#[49]⟩ : ByteArray), (⟨#[50]⟩ : ByteArray), (⟨#[51]⟩ : ByteArray), (⟨#[]⟩ : ByteArray), (⟨#[120]⟩ : ByteArray)] : List ByteArray)) t739 t740 t741 _ _ _ HRs0_0.out HCs0_0.out (HM.focus [] [0, 1]) A3.out) ?_; rintro e w4 ⟨rfl, hR⟩; refine ⟨_, rfl, ?_⟩; replace HM := nzM hR.unfocus; clear hR))
 go_ret
 exact ⟨ER, (MD HM).pick [0]⟩
def spec_Get.f (k : Nat) (a0_0 : Int) (a0_1 : Int) (l0_2 : List (S122)) (l0_3 : List (S122)) (l0_4 : List Int) (a1 : ByteArray) : Option (Int × Int × (List (S122)) × (List (S122)) × List Int × ByteArray × Bool) := (spec_ThreeOk.f k a0_0 a0_1 l0_2 l0_3 l0_4).bind fun t744 => (if t744 = true then ((spec_l10Copy.f a0_0 a0_1 l0_2 l0_3 l0_4).bind fun bt745 => ((spec_l10Touch.f k bt745.1 bt745.2.1 bt745.2.2.1 bt745.2.2.2.1 bt745.2.2.2.2 a1 false (⟨#[]⟩ : ByteArray)).bind fun bt756 => (some (bt756.1, bt756.2.1, bt756.2.2.1, bt756.2.2.2.1, bt756.2.2.2.2.1, bt756.2.2.2.2.2.1, bt756.2.2.2.2.2.2)))) else (some (0, 0, ([] : List (S122)), ([] : List (S122)), ([] : List Int), (⟨#[]⟩ : ByteArray), false)))
theorem spec_Get.calls (k : Nat) (a0_0 : Int) (a0_1 : Int) (A0_2 : Option Addr) (c0_2 : Nat) (l0_2 : List (S122)) (A0_3 : Option Addr) (c0_3 : Nat) (l0_3 : List (S122)) (A0_4 : Option Addr) (c0_4 : Nat) (l0_4 : List Int) (a1 : ByteArray) (r1 : Int) (r2 : Int) (r3 : List (S122)) (r4 : List (S122)) (r5 : List Int) (r6 : ByteArray) (r7 : Bool) (w : World) (hr0_2 : Kd.C k122 w A0_2 l0_2.length l0_2) (hc0_2 : l0_2.length ≤ c0_2) (hr0_3 : Kd.C k122 w A0_3 l0_3.length l0_3) (hc0_3 : l0_3.length ≤ c0_3) (hr0_4 : Kd.C (Kd.int .i64) w A0_4 l0_4.length l0_4) (hc0_4 : l0_4.length ≤ c0_4) (h : spec_Get.f k a0_0 a0_1 l0_2 l0_3 l0_4 a1 = some (r1, r2, r3, r4, r5, r6, r7)) :
  Calls Try.prog 168 #[.agg #[.int .i64 a0_0, .int .i64 a0_1, .slice A0_2 l0_2.length c0_2, .slice A0_3 l0_3.length c0_3, .slice A0_4 l0_4.length c0_4], .string a1] w fun e w' => ∃ v2_ v3_ v4_ : Value, e = .returned (.tuple #[.agg #[.int .i64 r1, .int .i64 r2, v2_, v3_, v4_], .string r6, .bool r7]) ∧ Mem w [] w' [rowR k122 122 v2_ r3, rowR k122 122 v3_ r4, rowR (Kd.int .i64) 3 v4_ r5] := by
 have hu32 := Try.underlying32
 have HR0_2 := Aside0.mk hr0_2
 have HC0_2 := Aside0.mk hc0_2
 clear hr0_2 hc0_2
 have HR0_3 := Aside0.mk hr0_3
 have HC0_3 := Aside0.mk hc0_3
 clear hr0_3 hc0_3
 have HR0_4 := Aside0.mk hr0_4
 have HC0_4 := Aside0.mk hc0_4
 clear hr0_4 hc0_4
 have HM := Mem.nil w
 have H := h
 clear h
 unfold spec_Get.f at H
 go_enter Try.func168, Try.ntmps168
 replace H := BN H; obtain ⟨t744, A6, H⟩ := H
 go_upto_if 9 with (first | ((with_reducible refine gN 2 rfl ?_); refine pB 2 32 [.int .i64 a0_0, .int .i64 a0_1, .slice A0_2 l0_2.length c0_2, .slice A0_3 l0_3.length c0_3, .slice A0_4 l0_4.length c0_4] HM rfl ?_; clear HM; intro gb742 w3 HM) | ((with_reducible refine gN 4 rfl ?_); refine pB 4 32 [.int .i64 0, .int .i64 0, .slice none 0 0, .slice none 0 0, .slice none 0 0] HM rfl ?_; clear HM; intro gb743 w4 HM; obtain ⟨_,_,_,_,_,_,_,_,_,_⟩ := bk5 (HM.bx 0 rfl)) | ((with_reducible refine gC 147 rfl ?_); refine pC (some 8) rfl #[.agg #[.int .i64 a0_0, .int .i64 a0_1, .slice A0_2 l0_2.length c0_2, .slice A0_3 l0_3.length c0_3, .slice A0_4 l0_4.length c0_4]] rfl Try.func147 (spec_ThreeOk.calls k a0_0 a0_1 _ _ l0_2 _ _ l0_3 _ _ l0_4 t744 _ (HM.came HR0_2.out) HC0_2.out (HM.came HR0_3.out) HC0_3.out (HM.came HR0_4.out) HC0_4.out A6.out) ?_; rintro e w7 ⟨rfl, hR⟩; refine ⟨_, rfl, ?_⟩; replace HM := HM.call hR; clear hR))
 replace HM := nzM HM
 replace H := IB H
 rcases H with ⟨c8, H⟩ | ⟨c8, H⟩
 ·subst c8
  replace H := BN H; obtain ⟨⟨t745, t746, t747, t750, t753⟩, A10, H⟩ := H
  replace H := BN H; obtain ⟨⟨t756, t757, t758, t761, t764, t767, t768⟩, A12, H⟩ := H
  simp only [Option.some.injEq, Prod.mk.injEq] at H
  obtain ⟨rfl, rfl, rfl, rfl, rfl, rfl, rfl⟩ := H
  obtain ⟨_,_,_,_,_,_,_,_,_,_⟩ := bk5 (HM.bx 0 rfl)
  go_wp2_with (first | ((with_reducible refine gC 195 rfl ?_); refine pC (some 12) rfl #[.agg #[.int .i64 a0_0, .int .i64 a0_1, .slice A0_2 l0_2.length c0_2, .slice A0_3 l0_3.length c0_3, .slice A0_4 l0_4.length c0_4]] rfl Try.func195 (spec_l10Copy.calls a0_0 a0_1 _ _ l0_2 _ _ l0_3 _ _ l0_4 t745 t746 t747 t750 t753 _ (HM.came HR0_2.out) HC0_2.out (HM.came HR0_3.out) HC0_3.out (HM.came HR0_4.out) HC0_4.out A10.out) ?_; rintro e w11 ⟨v748, v751, v754, rfl, hR⟩; refine ⟨_, rfl, ?_⟩; replace HM := HM.call hR; clear hR) | ((with_reducible refine gC 194 rfl ?_); refine pC (some 14) rfl #[.agg #[.int .i64 t745, .int .i64 t746, v748, v751, v754], .string a1, .bool false, .string (⟨#[]⟩ : ByteArray)] rfl Try.func194 (spec_l10Touch.calls k t745 t746 v748 t747 v751 t750 v754 t753 a1 false (⟨#[]⟩ : ByteArray) t756 t757 t758 t761 t764 t767 t768 _ _ _ (HM.focus [0, 1] [2, 3, 4]) A12.out) ?_; rintro e w13 ⟨v759, v762, v765, rfl, hR⟩; refine ⟨_, rfl, ?_⟩; replace HM := nzM hR.unfocus; clear hR; obtain ⟨Xo14, ko14, rfl⟩ := HM.rdR 2 rfl; obtain ⟨Xo15, ko15, rfl⟩ := HM.rdR 3 rfl; obtain ⟨Xo16, ko16, rfl⟩ := HM.rdR 4 rfl) | ((with_reducible refine gS 4 rfl ?_); refine pS 1 4 0 [.int .i64 t756, .int .i64 t757, .slice Xo14 t758.length ko14, .slice Xo15 t761.length ko15, .slice Xo16 t764.length ko16] HM rfl rfl ?_; clear HM; intro w17 HM))
  refine bodyPost_ret (results_ctt rfl _ _ gb743 32 #[.int .i64 t756, .int .i64 t757, .slice Xo14 t758.length ko14, .slice Xo15 t761.length ko15, .slice Xo16 t764.length ko16] (0, 0) _ rfl (HM.bx 1 rfl) Try.underlying32 rfl (by kernel_rfl)) rfl ?_
  exact ⟨_, _, _, ER, (MD HM).pick [2, 3, 4]⟩
 ·subst c8
  simp only [Option.some.injEq, Prod.mk.injEq] at H
  obtain ⟨rfl, rfl, rfl, rfl, rfl, rfl, rfl⟩ := H
  go_wp2_with (first | ((with_reducible refine gS 4 rfl ?_); refine pS 1 4 0 [.int .i64 0, .int .i64 0, .slice none 0 0, .slice none 0 0, .slice none 0 0] HM rfl rfl ?_; clear HM; intro w18 HM; replace HM := HM.nl k122 122; replace HM := HM.nl k122 122; replace HM := HM.nl (Kd.int .i64) 3))
  refine bodyPost_ret (results_ctt rfl _ _ gb743 32 #[.int .i64 0, .int .i64 0, .slice none 0 0, .slice none 0 0, .slice none 0 0] (0, 0) _ rfl (HM.bx 1 rfl) Try.underlying32 rfl (by kernel_rfl)) rfl ?_
  exact ⟨_, _, _, ER, (MD HM).pick [2, 3, 4]⟩
def spec_l10Without.l0 : Nat → ByteArray → List (S122) → List (S122) → Int → Int → Option ((List (S122)))
 | 0, _, _, _, _, _ => none
 | k + 1, x1, x5, x9, x10, x11 => if x11 < x10 then (if 0 ≤ x11 then (if x11 < (x9.length : Int) then (if ((rd_T122 x9 x11).f0).toList = x1.toList then (spec_l10Without.l0 k x1 x5 x9 x10 (wrap64 (x11 + 1))) else (if x5.length < 3518437208883 then (spec_l10Without.l0 k x1 (x5 ++ [(⟨(rd_T122 x9 x11).f0, (rd_T122 x9 x11).f1, (rd_T122 x9 x11).f2⟩ : S122)]) x9 x10 (wrap64 (x11 + 1))) else (none))) else (none)) else (none)) else (some x5)
def spec_l10Without.f (k : Nat) (l0 : List (S122)) (a1 : ByteArray) : Option ((List (S122))) := spec_l10Without.l0 k a1 (([] : List (S122))) l0 (l0.length : Int) 0
theorem spec_l10Without.calls (k : Nat) (A0 : Option Addr) (c0 : Nat) (l0 : List (S122)) (a1 : ByteArray) (r : List (S122)) (w : World) (hr0 : Kd.C k122 w A0 l0.length l0) (hc0 : l0.length ≤ c0) (h : spec_l10Without.f k l0 a1 = some r) :
  Calls Try.prog 199 #[.slice A0 l0.length c0, .string a1] w fun e w' => ∃ v0_ : Value, e = .returned (v0_) ∧ Mem w [] w' [rowR k122 122 v0_ r] := by
 have hu122 := Try.underlying122
 have HR0 := Aside0.mk hr0
 have HC0 := Aside0.mk hc0
 clear hr0 hc0
 have HM := Mem.nil w
 have H := h
 clear h
 unfold spec_l10Without.f at H
 go_enter Try.func199, Try.ntmps199
 have H' := Aside0.mk H
 clear H
 go_wp2_with (first | ((with_reducible refine gN 8 rfl ?_); refine pL 8 k122 122 ([] : List (S122)) [] (Reps.none _ _) HM rfl ?_; clear HM; intro v773 w3 HM))
 go_loopg [5, 11] k (fun kq v5 v11 w' => ∃ (x5_1 : List (S122)) (x11_1 : Int), v11 = .int .i64 x11_1 ∧ Aside0 (spec_l10Without.l0 kq a1 x5_1 l0 (l0.length : Int) x11_1 = some r) ∧ Aside0 (kq ≤ k) ∧ Mem w [] w' [rowR k122 122 v5 x5_1])
 case atStart => exact ⟨((([] : List (S122)))), (0), RS, H', ⟨Nat.le_refl _⟩, (MD HM).pick [0]⟩
 case round =>
  clear H' HM
  obtain ⟨x5_1, x11_1, rfl, HA, HK1, HM⟩ := hrel
  cases gk with
  | zero => exact absurd HA.out (by simp [spec_l10Without.l0])
  | succ k1 =>
   have H := HA.out
   clear HA
   simp only [spec_l10Without.l0] at H
   go_upto_if 12 with (fail)
   replace H := IT H; rcases H with ⟨c4, H⟩ | ⟨c4, H⟩
   ·have c4b0 := decide_eq_true c4
    clear c4
    first|rw [c4b0]|(simp only [i64_w, i32_w]; rw [c4b0])|skip
    replace H := GD H; obtain ⟨c5, H⟩ := H
    have c5b0 := decide_eq_true c5
    clear c5
    replace H := GD H; obtain ⟨c6, H⟩ := H
    have c6b0 := decide_eq_true c6
    clear c6
    have p775 : 0 ≤ (x11_1 : Int) := of_decide_eq_true AS
    have q775 : (x11_1 : Int) < (l0.length : Int) := of_decide_eq_true AS
    obtain ⟨ad775, e775, hx775_0, hx775_1, hx775_2⟩ := at_T122 (HM.came HR0.out) x11_1 p775 q775
    cases e775
    replace p775 := eq_true p775
    replace q775 := eq_true q775
    go_upto_if 18 with (first | ((with_reducible refine gN 7 rfl ?_); refine pB 7 122 [.string (⟨#[]⟩ : ByteArray), .string (⟨#[]⟩ : ByteArray), .int .i64 0] HM rfl ?_; clear HM; intro gb776 w7 HM) | ((with_reducible refine gS 7 rfl ?_); refine pS 1 7 0 [.string ((rd_T122 l0 x11_1).f0), .string ((rd_T122 l0 x11_1).f1), .int .i64 ((rd_T122 l0 x11_1).f2)] HM rfl rfl ?_; clear HM; intro w8 HM; obtain ⟨_,_,_,_,_,_⟩ := bk3 (HM.bx 1 rfl)))
    replace HM := nzM HM
    replace H := IT H; rcases H with ⟨c10, H⟩ | ⟨c10, H⟩
    ·obtain ⟨c10b0, c10b1⟩ := BE c10
     clear c10
     first|rw [c10b0]|(simp only [i64_w, i32_w]; rw [c10b0])|skip
     have H' := Aside0.mk H
     clear H
     go_wp2
     go_roundg k1
     case measure => have := HK1.out; omega
     case rel => exact ⟨(x5_1), (wrap64 (x11_1 + 1)), RS, H', ⟨by have := HK1.out; omega⟩, (MD HM).pick [0]⟩
    ·obtain ⟨c10b0, c10b1⟩ := BF c10
     first|rw [c10b0]|(simp only [i64_w, i32_w]; rw [c10b0])|skip
     replace H := GD H; obtain ⟨c11, H⟩ := H
     have LMc11 := Aside0.mk c11
     clear c11
     have H' := Aside0.mk H
     clear H
     go_wp2_with (first | ((with_reducible refine gN 21 rfl ?_); refine pL 21 k122 122 [(⟨(rd_T122 l0 x11_1).f0, (rd_T122 l0 x11_1).f1, (rd_T122 l0 x11_1).f2⟩ : S122)] [.string ((rd_T122 l0 x11_1).f0), .string ((rd_T122 l0 x11_1).f1), .int .i64 ((rd_T122 l0 x11_1).f2)] (Reps.c3 (show Kd.M k122 _ _ _ (⟨(rd_T122 l0 x11_1).f0, (rd_T122 l0 x11_1).f1, (rd_T122 l0 x11_1).f2⟩ : S122) [.string ((rd_T122 l0 x11_1).f0), .string ((rd_T122 l0 x11_1).f1), .int .i64 ((rd_T122 l0 x11_1).f2)] from (k122_mkM _ _ _ (⟨(rd_T122 l0 x11_1).f0, (rd_T122 l0 x11_1).f1, (rd_T122 l0 x11_1).f2⟩ : S122))) (Reps.none _ _)) HM rfl ?_; clear HM; intro v13 w12 HM; obtain ⟨Xv13, kv13, rfl⟩ := HM.rdR 2 rfl) | ((with_reducible refine gate_builtin (b := .append) (xs := #[.tmp 19, .tmp 21]) rfl ?_); refine pA 0 (.tmp 19) (.tmp 21) 29 122 k122 u5 x5_1 [(⟨(rd_T122 l0 x11_1).f0, (rd_T122 l0 x11_1).f1, (rd_T122 l0 x11_1).f2⟩ : S122)] Xv13 ([(⟨(rd_T122 l0 x11_1).f0, (rd_T122 l0 x11_1).f1, (rd_T122 l0 x11_1).f2⟩ : S122)].length) kv13 HM rfl Try.underlying29 info122 rfl (HM.CR 2 rfl).2.2 (by have h_ := LMc11.out; simp only [List.length_singleton]; omega) ?_; clear HM; intro v778 w14 HM))
     go_roundg k1
     case measure => have := HK1.out; omega
     case rel => exact ⟨((x5_1 ++ [(⟨(rd_T122 l0 x11_1).f0, (rd_T122 l0 x11_1).f1, (rd_T122 l0 x11_1).f2⟩ : S122)])), (wrap64 (x11_1 + 1)), RS, H', ⟨by have := HK1.out; omega⟩, (MD HM).pick [0]⟩
   ·have c4b0 := decide_eq_false c4
    clear c4
    first|rw [c4b0]|(simp only [i64_w, i32_w]; rw [c4b0])|skip
    obtain rfl := Option.some.inj H
    go_wp2
    go_ret
    exact ⟨_, ER, (MD HM).pick [0]⟩
def spec_Drop.f (k : Nat) (a0_0 : Int) (a0_1 : Int) (l0_2 : List (S122)) (l0_3 : List (S122)) (l0_4 : List Int) (a1 : ByteArray) : Option (Int × Int × (List (S122)) × (List (S122)) × List Int × Bool) := (spec_ThreeOk.f k a0_0 a0_1 l0_2 l0_3 l0_4).bind fun t782 => (if t782 = true then ((spec_l10Copy.f a0_0 a0_1 l0_2 l0_3 l0_4).bind fun bt783 => ((spec_l10Without.f k bt783.2.2.1 a1).bind fun t795 => ((spec_l10Without.f k bt783.2.2.2.1 a1).bind fun t798 => (some (bt783.1, bt783.2.1, t795, t798, bt783.2.2.2.2, decide ((wrap64 ((t795.length : Int) + (t798.length : Int))) < (wrap64 ((l0_2.length : Int) + (l0_3.length : Int))))))))) else (some (0, 0, ([] : List (S122)), ([] : List (S122)), ([] : List Int), false)))
def spec_Drop.T6 : Bool × List (List Nat × List Nat) := (true, [([], []), ([], []), ([1], [1]), ([2], [2]), ([], []), ([4], [4]), ([5], [5]), ([3, 6], [3, 6]), ([], []), ([8], [8]), ([9], [9]), ([], []), ([11], [11]), ([12], [12]), ([10, 13], [10, 13]), ([7, 14], [7, 14]), ([0, 0], [0]), ([15, 16, 0, 1, 2, 3, 4, 5, 6, 7, 8, 9, 10, 11, 12, 13, 14, 15, 16], [15])])
def spec_Drop.B6 : List Nat := [0, 0, 2, 6, 0, 16, 48, 126, 0, 256, 768, 0, 2048, 6144, 16128, 32766, 1, 131071]
theorem spec_Drop.tab6 : rtab .any (opsOf Try.f169 6) = spec_Drop.T6 := by kernel_rfl
theorem spec_Drop.bits6 : waitsOk spec_Drop.T6.2 spec_Drop.B6 = true := by kernel_rfl
theorem spec_Drop.calls (k : Nat) (a0_0 : Int) (a0_1 : Int) (A0_2 : Option Addr) (c0_2 : Nat) (l0_2 : List (S122)) (A0_3 : Option Addr) (c0_3 : Nat) (l0_3 : List (S122)) (A0_4 : Option Addr) (c0_4 : Nat) (l0_4 : List Int) (a1 : ByteArray) (r1 : Int) (r2 : Int) (r3 : List (S122)) (r4 : List (S122)) (r5 : List Int) (r6 : Bool) (w : World) (hr0_2 : Kd.C k122 w A0_2 l0_2.length l0_2) (hc0_2 : l0_2.length ≤ c0_2) (hr0_3 : Kd.C k122 w A0_3 l0_3.length l0_3) (hc0_3 : l0_3.length ≤ c0_3) (hr0_4 : Kd.C (Kd.int .i64) w A0_4 l0_4.length l0_4) (hc0_4 : l0_4.length ≤ c0_4) (h : spec_Drop.f k a0_0 a0_1 l0_2 l0_3 l0_4 a1 = some (r1, r2, r3, r4, r5, r6)) :
  Calls Try.prog 169 #[.agg #[.int .i64 a0_0, .int .i64 a0_1, .slice A0_2 l0_2.length c0_2, .slice A0_3 l0_3.length c0_3, .slice A0_4 l0_4.length c0_4], .string a1] w fun e w' => ∃ v2_ v3_ v4_ : Value, e = .returned (.tuple #[.agg #[.int .i64 r1, .int .i64 r2, v2_, v3_, v4_], .bool r6]) ∧ Mem w [] w' [rowR k122 122 v2_ r3, rowR k122 122 v3_ r4, rowR (Kd.int .i64) 3 v4_ r5] := by
 have hu32 := Try.underlying32
 have HR0_2 := Aside0.mk hr0_2
 have HC0_2 := Aside0.mk hc0_2
 clear hr0_2 hc0_2
 have HR0_3 := Aside0.mk hr0_3
 have HC0_3 := Aside0.mk hc0_3
 clear hr0_3 hc0_3
 have HR0_4 := Aside0.mk hr0_4
 have HC0_4 := Aside0.mk hc0_4
 clear hr0_4 hc0_4
 have HM := Mem.nil w
 have H := h
 clear h
 unfold spec_Drop.f at H
 go_enter Try.func169, Try.ntmps169
 replace H := BN H; obtain ⟨t782, A6, H⟩ := H
 go_upto_if 9 with (first | ((with_reducible refine gN 2 rfl ?_); refine pB 2 32 [.int .i64 a0_0, .int .i64 a0_1, .slice A0_2 l0_2.length c0_2, .slice A0_3 l0_3.length c0_3, .slice A0_4 l0_4.length c0_4] HM rfl ?_; clear HM; intro gb780 w3 HM) | ((with_reducible refine gN 4 rfl ?_); refine pB 4 32 [.int .i64 0, .int .i64 0, .slice none 0 0, .slice none 0 0, .slice none 0 0] HM rfl ?_; clear HM; intro gb781 w4 HM; obtain ⟨_,_,_,_,_,_,_,_,_,_⟩ := bk5 (HM.bx 0 rfl)) | ((with_reducible refine gC 147 rfl ?_); refine pC (some 8) rfl #[.agg #[.int .i64 a0_0, .int .i64 a0_1, .slice A0_2 l0_2.length c0_2, .slice A0_3 l0_3.length c0_3, .slice A0_4 l0_4.length c0_4]] rfl Try.func147 (spec_ThreeOk.calls k a0_0 a0_1 _ _ l0_2 _ _ l0_3 _ _ l0_4 t782 _ (HM.came HR0_2.out) HC0_2.out (HM.came HR0_3.out) HC0_3.out (HM.came HR0_4.out) HC0_4.out A6.out) ?_; rintro e w7 ⟨rfl, hR⟩; refine ⟨_, rfl, ?_⟩; replace HM := HM.call hR; clear hR))
 replace HM := nzM HM
 replace H := IB H
 rcases H with ⟨c8, H⟩ | ⟨c8, H⟩
 ·subst c8
  replace H := BN H; obtain ⟨⟨t783, t784, t785, t788, t791⟩, A10, H⟩ := H
  replace H := BN H; obtain ⟨t795, A18, H⟩ := H
  replace H := BN H; obtain ⟨t798, A23, H⟩ := H
  obtain ⟨_,_,_,_,_,_,_,_,_,_⟩ := bk5 (HM.bx 0 rfl)
  try go_wp2_with (first | ((with_reducible refine gC 195 rfl ?_); refine pC (some 12) rfl #[.agg #[.int .i64 a0_0, .int .i64 a0_1, .slice A0_2 l0_2.length c0_2, .slice A0_3 l0_3.length c0_3, .slice A0_4 l0_4.length c0_4]] rfl Try.func195 (spec_l10Copy.calls a0_0 a0_1 _ _ l0_2 _ _ l0_3 _ _ l0_4 t783 t784 t785 t788 t791 _ (HM.came HR0_2.out) HC0_2.out (HM.came HR0_3.out) HC0_3.out (HM.came HR0_4.out) HC0_4.out A10.out) ?_; rintro e w11 ⟨v786, v789, v792, rfl, hR⟩; refine ⟨_, rfl, ?_⟩; replace HM := HM.call hR; clear hR) | ((with_reducible refine gN 6 rfl ?_); refine pB 6 32 [.int .i64 0, .int .i64 0, .slice none 0 0, .slice none 0 0, .slice none 0 0] HM rfl ?_; clear HM; intro gb794 w12 HM; obtain ⟨Xo13, ko13, rfl⟩ := HM.rdR 2 rfl; obtain ⟨Xo14, ko14, rfl⟩ := HM.rdR 3 rfl; obtain ⟨Xo15, ko15, rfl⟩ := HM.rdR 4 rfl) | ((with_reducible refine gS 6 rfl ?_); refine pS 5 6 0 [.int .i64 t783, .int .i64 t784, .slice Xo13 t785.length ko13, .slice Xo14 t788.length ko14, .slice Xo15 t791.length ko15] HM rfl rfl ?_; clear HM; intro w16 HM; obtain ⟨_,_,_,_,_,_,_,_,_,_⟩ := bk5 (HM.bx 5 rfl)) | ((with_reducible refine gC 199 rfl ?_); refine pC (some 16) rfl #[.slice Xo13 t785.length ko13, .string a1] rfl Try.func199 (spec_l10Without.calls k _ _ t785 a1 t795 _ (HM.CR 2 rfl).2.2 (HM.CR 2 rfl).2.1 A18.out) ?_; rintro e w19 ⟨v796, rfl, hR⟩; refine ⟨_, rfl, ?_⟩; replace HM := HM.call hR; clear hR; obtain ⟨Xo20, ko20, rfl⟩ := HM.rdR 6 rfl) | ((with_reducible refine gS 17 rfl ?_); refine pS 5 17 2 [.slice Xo20 t795.length ko20] HM rfl rfl ?_; clear HM; intro w21 HM; obtain ⟨_,_,_,_,_,_,_,_,_,_⟩ := bk5 (HM.bx 5 rfl)) | ((with_reducible refine gC 199 rfl ?_); refine pC (some 21) rfl #[.slice Xo14 t788.length ko14, .string a1] rfl Try.func199 (spec_l10Without.calls k _ _ t788 a1 t798 _ (HM.CR 3 rfl).2.2 (HM.CR 3 rfl).2.1 A23.out) ?_; rintro e w24 ⟨v799, rfl, hR⟩; refine ⟨_, rfl, ?_⟩; replace HM := HM.call hR; clear hR; obtain ⟨Xo25, ko25, rfl⟩ := HM.rdR 7 rfl) | ((with_reducible refine gS 22 rfl ?_); refine pS 5 22 3 [.slice Xo25 t798.length ko25] HM rfl rfl ?_; clear HM; intro w26 HM))
  refine RGN 18 [0, 1, 2, 3, 4, 5, 6, 7, 8, 9, 10, 11, 12, 13, 14, 15, 16, 17] (fun a0 b a w' => a = putSel a0 b [(0, 23, .agg #[.int .i64 t783, .int .i64 t784, .slice Xo20 t795.length ko20, .slice Xo25 t798.length ko25, .slice Xo15 t791.length ko15]), (1, 24, .pointer (some ⟨gb794, 2, none⟩)), (2, 25, .slice Xo20 t795.length ko20), (3, 26, .int .i64 (t795.length : Int)), (4, 27, .pointer (some ⟨gb794, 3, none⟩)), (5, 28, .slice Xo25 t798.length ko25), (6, 29, .int .i64 (t798.length : Int)), (7, 30, .int .i64 (wrap64 ((t795.length : Int) + (t798.length : Int)))), (8, 31, .pointer (some ⟨gb780, 2, none⟩)), (9, 32, .slice A0_2 l0_2.length c0_2), (10, 33, .int .i64 (l0_2.length : Int)), (11, 34, .pointer (some ⟨gb780, 3, none⟩)), (12, 35, .slice A0_3 l0_3.length c0_3), (13, 36, .int .i64 (l0_3.length : Int)), (14, 37, .int .i64 (wrap64 ((l0_2.length : Int) + (l0_3.length : Int)))), (15, 38, .bool (decide ((wrap64 ((t795.length : Int) + (t798.length : Int))) < (wrap64 ((l0_2.length : Int) + (l0_3.length : Int)))))), (17, 5, .bool (decide ((wrap64 ((t795.length : Int) + (t798.length : Int))) < (wrap64 ((l0_2.length : Int) + (l0_3.length : Int))))))] ∧ Mem w [] w' [box 32 gb780 [.int .i64 a0_0, .int .i64 a0_1, .slice A0_2 l0_2.length c0_2, .slice A0_3 l0_3.length c0_3, .slice A0_4 l0_4.length c0_4], sel (b 16) (box 32 gb781 [.int .i64 t783, .int .i64 t784, .slice Xo20 t795.length ko20, .slice Xo25 t798.length ko25, .slice Xo15 t791.length ko15]) (box 32 gb781 [.int .i64 0, .int .i64 0, .slice none 0 0, .slice none 0 0, .slice none 0 0]), rowR k122 122 (.slice Xo13 t785.length ko13) t785, rowR k122 122 (.slice Xo14 t788.length ko14) t788, rowR (Kd.int .i64) 3 (.slice Xo15 t791.length ko15) t791, box 32 gb794 [.int .i64 t783, .int .i64 t784, .slice Xo20 t795.length ko20, .slice Xo25 t798.length ko25, .slice Xo15 t791.length ko15], rowR k122 122 (.slice Xo20 t795.length ko20) t795, rowR k122 122 (.slice Xo25 t798.length ko25) t798]) spec_Drop.tab6 spec_Drop.bits6 ?_ ?_ ?_
  ·exact ⟨PS0' rfl _, (HM.drew).pick [0, 1, 2, 3, 4, 5, 6, 7]⟩
  ·clear HM
   refine SY ?_ ?_
   ·intro b a w ha HM hb hon hoff K hK
    obtain ⟨_,_,_,_,_,_,_,_,_,_⟩ := bk5 (HM.bx 5 rfl)
    have e6 := PG ha 6
    exact VL (.agg #[.int .i64 t783, .int .i64 t784, .slice Xo20 t795.length ko20, .slice Xo25 t798.length ko25, .slice Xo15 t791.length ko15]) (hK.out _ _ ⟨PUT ha 0 hb, HM⟩)
   refine SY ?_ ?_
   ·intro b a w ha HM hb hon hoff K hK
    have e6 := PG ha 6
    exact VL (.pointer (some ⟨gb794, 2, none⟩)) (hK.out _ _ ⟨PUT ha 1 hb, HM⟩)
   refine SY ?_ ?_
   ·intro b a w ha HM hb hon hoff K hK
    obtain ⟨_,_,_,_,_,_,_,_,_,_⟩ := bk5 (HM.bx 5 rfl)
    have e24 := PE ha 1 hon
    exact VL (.slice Xo20 t795.length ko20) (hK.out _ _ ⟨PUT ha 2 hb, HM⟩)
   refine SY ?_ ?_
   ·intro b a w ha HM hb hon hoff K hK
    have e25 := PE ha 2 hon
    exact VL (.int .i64 (t795.length : Int)) (hK.out _ _ ⟨PUT ha 3 hb, HM⟩)
   refine SY ?_ ?_
   ·intro b a w ha HM hb hon hoff K hK
    have e6 := PG ha 6
    exact VL (.pointer (some ⟨gb794, 3, none⟩)) (hK.out _ _ ⟨PUT ha 4 hb, HM⟩)
   refine SY ?_ ?_
   ·intro b a w ha HM hb hon hoff K hK
    obtain ⟨_,_,_,_,_,_,_,_,_,_⟩ := bk5 (HM.bx 5 rfl)
    have e27 := PE ha 4 hon
    exact VL (.slice Xo25 t798.length ko25) (hK.out _ _ ⟨PUT ha 5 hb, HM⟩)
   refine SY ?_ ?_
   ·intro b a w ha HM hb hon hoff K hK
    have e28 := PE ha 5 hon
    exact VL (.int .i64 (t798.length : Int)) (hK.out _ _ ⟨PUT ha 6 hb, HM⟩)
   refine SY ?_ ?_
   ·intro b a w ha HM hb hon hoff K hK
    have e26 := PE ha 3 hon
    have e29 := PE ha 6 hon
    exact VL (.int .i64 (wrap64 ((t795.length : Int) + (t798.length : Int)))) (hK.out _ _ ⟨PUT ha 7 hb, HM⟩)
   refine SY ?_ ?_
   ·intro b a w ha HM hb hon hoff K hK
    have e2 := PG ha 2
    exact VL (.pointer (some ⟨gb780, 2, none⟩)) (hK.out _ _ ⟨PUT ha 8 hb, HM⟩)
   refine SY ?_ ?_
   ·intro b a w ha HM hb hon hoff K hK
    obtain ⟨_,_,_,_,_,_,_,_,_,_⟩ := bk5 (HM.bx 0 rfl)
    have e31 := PE ha 8 hon
    exact VL (.slice A0_2 l0_2.length c0_2) (hK.out _ _ ⟨PUT ha 9 hb, HM⟩)
   refine SY ?_ ?_
   ·intro b a w ha HM hb hon hoff K hK
    have e32 := PE ha 9 hon
    exact VL (.int .i64 (l0_2.length : Int)) (hK.out _ _ ⟨PUT ha 10 hb, HM⟩)
   refine SY ?_ ?_
   ·intro b a w ha HM hb hon hoff K hK
    have e2 := PG ha 2
    exact VL (.pointer (some ⟨gb780, 3, none⟩)) (hK.out _ _ ⟨PUT ha 11 hb, HM⟩)
   refine SY ?_ ?_
   ·intro b a w ha HM hb hon hoff K hK
    obtain ⟨_,_,_,_,_,_,_,_,_,_⟩ := bk5 (HM.bx 0 rfl)
    have e34 := PE ha 11 hon
    exact VL (.slice A0_3 l0_3.length c0_3) (hK.out _ _ ⟨PUT ha 12 hb, HM⟩)
   refine SY ?_ ?_
   ·intro b a w ha HM hb hon hoff K hK
    have e35 := PE ha 12 hon
    exact VL (.int .i64 (l0_3.length : Int)) (hK.out _ _ ⟨PUT ha 13 hb, HM⟩)
   refine SY ?_ ?_
   ·intro b a w ha HM hb hon hoff K hK
    have e33 := PE ha 10 hon
    have e36 := PE ha 13 hon
    exact VL (.int .i64 (wrap64 ((l0_2.length : Int) + (l0_3.length : Int)))) (hK.out _ _ ⟨PUT ha 14 hb, HM⟩)
   refine SY ?_ ?_
   ·intro b a w ha HM hb hon hoff K hK
    have e30 := PE ha 7 hon
    have e37 := PE ha 14 hon
    exact VL (.bool (decide ((wrap64 ((t795.length : Int) + (t798.length : Int))) < (wrap64 ((l0_2.length : Int) + (l0_3.length : Int)))))) (hK.out _ _ ⟨PUT ha 15 hb, HM⟩)
   refine SY ?_ ?_
   ·intro b a w ha HM hb hon hoff K hK
    replace HM := HM.sF 1 rfl hb
    have e4 := PG ha 4
    have e23 := PE ha 0 hon
    refine ST (eS 1 4 0 [.int .i64 t783, .int .i64 t784, .slice Xo20 t795.length ko20, .slice Xo25 t798.length ko25, .slice Xo15 t791.length ko15] HM rfl rfl ?_ (hp := (eval_of e4)) (hx := (by rw [eval_of e23]; rfl)))
    clear HM
    intro w38 HM
    exact hK.out _ _ ⟨PUS ha, (HM).pick [0, 1, 2, 3, 4, 5, 6, 7]⟩
   refine SY ?_ ?_
   ·intro b a w ha HM hb hon hoff K hK
    have e38 := PE ha 15 hon
    exact VL (.bool (decide ((wrap64 ((t795.length : Int) + (t798.length : Int))) < (wrap64 ((l0_2.length : Int) + (l0_3.length : Int)))))) (hK.out _ _ ⟨PUT ha 16 hb, HM⟩)
   exact steps_nil
  rintro _ w39 ⟨rfl, HM⟩
  replace HM := HM.sT 1 rfl rfl
  simp only [putSel, if_true, Act.put, List.setIfInBounds_toArray, List.set_cons_zero, List.set_cons_succ, gt_iff_lt, ge_iff_le]
  simp only [Option.some.injEq, Prod.mk.injEq] at H
  obtain ⟨rfl, rfl, rfl, rfl, rfl, rfl⟩ := H
  go_wp2
  refine bodyPost_ret (results_ct rfl _ _ gb781 32 #[.int .i64 t783, .int .i64 t784, .slice Xo20 t795.length ko20, .slice Xo25 t798.length ko25, .slice Xo15 t791.length ko15] (0, 0) _ rfl (HM.bx 1 rfl) Try.underlying32 rfl (by kernel_rfl)) rfl ?_
  exact ⟨_, _, _, ER, (MD HM).pick [6, 7, 4]⟩
 ·subst c8
  simp only [Option.some.injEq, Prod.mk.injEq] at H
  obtain ⟨rfl, rfl, rfl, rfl, rfl, rfl⟩ := H
  go_wp2_with (first | ((with_reducible refine gS 4 rfl ?_); refine pS 1 4 0 [.int .i64 0, .int .i64 0, .slice none 0 0, .slice none 0 0, .slice none 0 0] HM rfl rfl ?_; clear HM; intro w40 HM; replace HM := HM.nl k122 122; replace HM := HM.nl k122 122; replace HM := HM.nl (Kd.int .i64) 3))
  refine bodyPost_ret (results_ct rfl _ _ gb781 32 #[.int .i64 0, .int .i64 0, .slice none 0 0, .slice none 0 0, .slice none 0 0] (0, 0) _ rfl (HM.bx 1 rfl) Try.underlying32 rfl (by kernel_rfl)) rfl ?_
  exact ⟨_, _, _, ER, (MD HM).pick [2, 3, 4]⟩
def spec_l10Some.f (k : Nat) (s0_0 : List Int) (s0_1 : Int) (s0_2 : Int) (a1_0 : Int) (a1_1 : Int) (l1_2 : List (S122)) (l1_3 : List (S122)) (l1_4 : List Int) : Option (Int × Int × (List (S122)) × (List (S122)) × List Int × Int × Int) := (spec_l01Below.f s0_0 s0_1 s0_2 9).bind fun bt806 => (if bt806.1 < 4 then ((spec_l10Key.f s0_0 bt806.2.1 bt806.2.2).bind fun bt809 => ((spec_l10Val.f s0_0 bt809.2.1 bt809.2.2).bind fun bt812 => ((spec_Put.f k a1_0 a1_1 l1_2 l1_3 l1_4 bt809.1 bt812.1).bind fun bt815 => (some (bt815.1, bt815.2.1, bt815.2.2.1, bt815.2.2.2.1, bt815.2.2.2.2.1, bt812.2.1, bt812.2.2))))) else (if bt806.1 < 8 then ((spec_l10Key.f s0_0 bt806.2.1 bt806.2.2).bind fun bt830 => ((spec_Get.f k a1_0 a1_1 l1_2 l1_3 l1_4 bt830.1).bind fun bt833 => (some (bt833.1, bt833.2.1, bt833.2.2.1, bt833.2.2.2.1, bt833.2.2.2.2.1, bt830.2.1, bt830.2.2)))) else ((spec_l10Key.f s0_0 bt806.2.1 bt806.2.2).bind fun bt846 => ((spec_Drop.f k a1_0 a1_1 l1_2 l1_3 l1_4 bt846.1).bind fun bt849 => (some (bt849.1, bt849.2.1, bt849.2.2.1, bt849.2.2.2.1, bt849.2.2.2.2.1, bt846.2.1, bt846.2.2))))))
def spec_l10Some.T2 : Bool × List (List Nat × List Nat) := (true, [([], []), ([], []), ([1], [1]), ([0, 2, 2], [0, 2]), ([3], [3]), ([4], [4]), ([4], [4]), ([5, 3, 0, 1, 2, 3, 4, 5], [5])])
def spec_l10Some.B2 : List Nat := [0, 0, 2, 7, 15, 31, 31, 63]
theorem spec_l10Some.tab2 : rtab .any (opsOf Try.f118 2) = spec_l10Some.T2 := by kernel_rfl
theorem spec_l10Some.bits2 : waitsOk spec_l10Some.T2.2 spec_l10Some.B2 = true := by kernel_rfl
def spec_l10Some.T4 : Bool × List (List Nat × List Nat) := (true, [([], []), ([], []), ([1], [1]), ([], []), ([3, 2], [3]), ([0, 2, 4, 4], [0, 2, 4]), ([5], [5]), ([6], [6]), ([6], [6]), ([6], [6]), ([7, 5, 0, 1, 2, 3, 4, 5, 6, 7], [7])])
def spec_l10Some.B4 : List Nat := [0, 0, 2, 0, 14, 31, 63, 127, 127, 127, 255]
theorem spec_l10Some.tab4 : rtab .any (opsOf Try.f118 4) = spec_l10Some.T4 := by kernel_rfl
theorem spec_l10Some.bits4 : waitsOk spec_l10Some.T4.2 spec_l10Some.B4 = true := by kernel_rfl
def spec_l10Some.T6 : Bool × List (List Nat × List Nat) := (true, [([], []), ([], []), ([1], [1]), ([0, 2, 2], [0, 2]), ([3], [3]), ([4], [4]), ([4], [4]), ([4], [4]), ([5, 3, 0, 1, 2, 3, 4, 5], [5])])
def spec_l10Some.B6 : List Nat := [0, 0, 2, 7, 15, 31, 31, 31, 63]
theorem spec_l10Some.tab6 : rtab .any (opsOf Try.f118 6) = spec_l10Some.T6 := by kernel_rfl
theorem spec_l10Some.bits6 : waitsOk spec_l10Some.T6.2 spec_l10Some.B6 = true := by kernel_rfl
theorem spec_l10Some.calls (k : Nat) (g : Nat) (A0_0 : Option Addr) (c0_0 : Nat) (s0_0 : List Int) (s0_1 : Int) (s0_2 : Int) (a1_0 : Int) (a1_1 : Int) (A1_2 : Option Addr) (c1_2 : Nat) (l1_2 : List (S122)) (A1_3 : Option Addr) (c1_3 : Nat) (l1_3 : List (S122)) (A1_4 : Option Addr) (c1_4 : Nat) (l1_4 : List Int) (r1 : Int) (r2 : Int) (r3 : List (S122)) (r4 : List (S122)) (r5 : List Int) (r6 : Int) (r7 : Int) (w0 w : World) (F : List SP) (hrs0_0 : Kd.C (Kd.int .u8) w0 A0_0 s0_0.length s0_0) (hcs0_0 : s0_0.length ≤ c0_0) (hM : Mem w0 F w [box 110 g [.slice A0_0 s0_0.length c0_0, .int .i64 s0_1, .int .i64 s0_2], row k122 122 (.slice A1_2 l1_2.length c1_2) l1_2, row k122 122 (.slice A1_3 l1_3.length c1_3) l1_3, row (Kd.int .i64) 3 (.slice A1_4 l1_4.length c1_4) l1_4]) (h : spec_l10Some.f k s0_0 s0_1 s0_2 a1_0 a1_1 l1_2 l1_3 l1_4 = some (r1, r2, r3, r4, r5, r6, r7)) :
  Calls Try.prog 118 #[.pointer (some ⟨g, 0, none⟩), .agg #[.int .i64 a1_0, .int .i64 a1_1, .slice A1_2 l1_2.length c1_2, .slice A1_3 l1_3.length c1_3, .slice A1_4 l1_4.length c1_4]] w fun e w' => ∃ v2_ v3_ v4_ : Value, e = .returned (.agg #[.int .i64 r1, .int .i64 r2, v2_, v3_, v4_]) ∧ Mem w0 F w' [rowR k122 122 v2_ r3, rowR k122 122 v3_ r4, row (Kd.int .i64) 3 v4_ r5, box 110 g [.slice A0_0 s0_0.length c0_0, .int .i64 r6, .int .i64 r7], row k122 122 (.slice A1_2 l1_2.length c1_2) l1_2, row k122 122 (.slice A1_3 l1_3.length c1_3) l1_3, row (Kd.int .i64) 3 (.slice A1_4 l1_4.length c1_4) l1_4] := by
 have hu32 := Try.underlying32
 have HRs0_0 := Aside0.mk hrs0_0
 have HCs0_0 := Aside0.mk hcs0_0
 clear hrs0_0 hcs0_0
 have HM := hM
 clear hM
 have H := h
 clear h
 unfold spec_l10Some.f at H
 go_enter Try.func118, Try.ntmps118
 replace H := BN H; obtain ⟨⟨t806, t807, t808⟩, A5, H⟩ := H
 go_upto_if 15 with (first | ((with_reducible refine gN 3 rfl ?_); refine pB 3 32 [.int .i64 a1_0, .int .i64 a1_1, .slice A1_2 l1_2.length c1_2, .slice A1_3 l1_3.length c1_3, .slice A1_4 l1_4.length c1_4] HM rfl ?_; clear HM; intro gb804 w3 HM) | ((with_reducible refine gN 4 rfl ?_); refine pB 4 32 [.int .i64 0, .int .i64 0, .slice none 0 0, .slice none 0 0, .slice none 0 0] HM rfl ?_; clear HM; intro gb805 w4 HM) | ((with_reducible refine gC 73 rfl ?_); refine pC (some 7) rfl #[.pointer (some ⟨g, 0, none⟩), .int .i64 9] rfl Try.func73 (spec_l01Below.calls g A0_0 c0_0 s0_0 s0_1 s0_2 9 t806 t807 t808 _ _ _ HRs0_0.out HCs0_0.out (HM.focus [1, 2, 3, 4, 5] [0]) A5.out) ?_; rintro e w6 ⟨rfl, hR⟩; refine ⟨_, rfl, ?_⟩; replace HM := nzM hR.unfocus; clear hR))
 replace HM := nzM HM
 replace H := IT H; rcases H with ⟨c7, H⟩ | ⟨c7, H⟩
 ·have c7b0 : decide (t806 < 4) = true := decide_eq_true c7
  clear c7
  first|rw [c7b0]|(simp only [i64_w, i32_w]; rw [c7b0])|skip
  try go_wp2
  replace H := BN H; obtain ⟨⟨t809, t810, t811⟩, A8, H⟩ := H
  replace H := BN H; obtain ⟨⟨t812, t813, t814⟩, A9, H⟩ := H
  replace H := BN H; obtain ⟨⟨t815, t816, t817, t820, t823, t826, t829⟩, A10, H⟩ := H
  refine RGN 11 [0, 1, 2, 3, 4, 5, 6, 7, 8, 9, 10] (fun a0 b a w' => ∃ (v818 : Value) (v821 : Value) (v824 : Value) (v827 : Value), a = putSel a0 b [(0, 19, .agg #[.int .i64 a1_0, .int .i64 a1_1, .slice A1_2 l1_2.length c1_2, .slice A1_3 l1_3.length c1_3, .slice A1_4 l1_4.length c1_4]), (1, 20, .pointer (some ⟨g, 0, none⟩)), (2, 21, .string t809), (3, 22, .pointer (some ⟨g, 0, none⟩)), (4, 23, .string t812), (5, 24, .tuple #[.agg #[.int .i64 t815, .int .i64 t816, v818, v821, v824], v827, .bool t829]), (6, 18, .tuple #[.agg #[.int .i64 t815, .int .i64 t816, v818, v821, v824], v827, .bool t829]), (7, 25, .agg #[.int .i64 t815, .int .i64 t816, v818, v821, v824]), (8, 26, v827), (9, 27, .bool t829)] ∧ Mem w0 F w' [row k122 122 (.slice A1_2 l1_2.length c1_2) l1_2, row k122 122 (.slice A1_3 l1_3.length c1_3) l1_3, row (Kd.int .i64) 3 (.slice A1_4 l1_4.length c1_4) l1_4, sel (b 10) (box 32 gb804 [.int .i64 t815, .int .i64 t816, v818, v821, v824]) (box 32 gb804 [.int .i64 a1_0, .int .i64 a1_1, .slice A1_2 l1_2.length c1_2, .slice A1_3 l1_3.length c1_3, .slice A1_4 l1_4.length c1_4]), box 32 gb805 [.int .i64 0, .int .i64 0, .slice none 0 0, .slice none 0 0, .slice none 0 0], sel (b 4) (box 110 g [.slice A0_0 s0_0.length c0_0, .int .i64 t813, .int .i64 t814]) (sel (b 2) (box 110 g [.slice A0_0 s0_0.length c0_0, .int .i64 t810, .int .i64 t811]) (box 110 g [.slice A0_0 s0_0.length c0_0, .int .i64 t807, .int .i64 t808])), sel (b 5) (rowR k122 122 v818 t817) (emp), sel (b 5) (rowR k122 122 v821 t820) (emp), sel (b 5) (row (Kd.int .i64) 3 v824 t823) (emp), sel (b 5) (rowR Kd.string 9 v827 t826) (emp)]) spec_l10Some.tab4 spec_l10Some.bits4 ?_ ?_ ?_
  ·exact ⟨.bool false, .bool false, .bool false, .bool false, PS0' rfl _, (HM.drew.ems 4).pick [0, 1, 2, 3, 4, 5, 6, 7, 8, 9]⟩
  ·clear HM
   refine SZ ?_ ?_
   ·rintro b a w ⟨v818, v821, v824, v827, ha, HM⟩ hb hon hoff K hK
    replace ha := Aside0.mk ha
    have HZ := HM
    replace HM := HM.sF 3 rfl (hoff 10 rfl)
    obtain ⟨_,_,_,_,_,_,_,_,_,_⟩ := bk5 (HM.bx 3 rfl)
    have e3 := PG ha 3
    exact VL (.agg #[.int .i64 a1_0, .int .i64 a1_1, .slice A1_2 l1_2.length c1_2, .slice A1_3 l1_3.length c1_3, .slice A1_4 l1_4.length c1_4]) (hK.out _ _ ⟨v818, v821, v824, v827, PUT ha 0 hb, HZ⟩)
   refine SZ ?_ ?_
   ·rintro b a w ⟨v818, v821, v824, v827, ha, HM⟩ hb hon hoff K hK
    replace ha := Aside0.mk ha
    have e0 := PG ha 0
    exact VL (.pointer (some ⟨g, 0, none⟩)) (hK.out _ _ ⟨v818, v821, v824, v827, PUT ha 1 hb, HM⟩)
   refine SZ ?_ ?_
   ·rintro b a w ⟨v818, v821, v824, v827, ha, HM⟩ hb hon hoff K hK
    replace ha := Aside0.mk ha
    replace HM := (HM.sF 5 rfl (hoff 4 rfl)).sF 5 rfl hb
    have e20 := PE ha 1 hon
    refine ST (eC (some 21) rfl #[.pointer (some ⟨g, 0, none⟩)] rfl Try.func128 (spec_l10Key.calls g A0_0 c0_0 s0_0 t807 t808 t809 t810 t811 _ _ _ HRs0_0.out HCs0_0.out (HM.focus [0, 1, 2, 3, 4, 6, 7, 8, 9] [5]) A8.out) ?_ (hargs := by (simp only [List.map_toArray, List.map_cons, List.map_nil, evc, eval_of e20]) <;> rfl))
    rintro e w20 ⟨rfl, hR⟩
    refine ⟨_, rfl, ?_⟩
    replace HM := nzM hR.unfocus
    clear hR
    exact hK.out _ _ ⟨v818, v821, v824, v827, PUT ha 2 hb, (HM.iF 9 rfl (hoff 4 rfl)).pick [0, 1, 2, 3, 4, 9, 5, 6, 7, 8]⟩
   refine SZ ?_ ?_
   ·rintro b a w ⟨v818, v821, v824, v827, ha, HM⟩ hb hon hoff K hK
    replace ha := Aside0.mk ha
    have e0 := PG ha 0
    exact VL (.pointer (some ⟨g, 0, none⟩)) (hK.out _ _ ⟨v818, v821, v824, v827, PUT ha 3 hb, HM⟩)
   refine SZ ?_ ?_
   ·rintro b a w ⟨v818, v821, v824, v827, ha, HM⟩ hb hon hoff K hK
    replace ha := Aside0.mk ha
    replace HM := (HM.sF 5 rfl hb).sT 5 rfl (hon 2 rfl)
    have e22 := PE ha 3 hon
    refine ST (eC (some 23) rfl #[.pointer (some ⟨g, 0, none⟩)] rfl Try.func167 (spec_l10Val.calls g A0_0 c0_0 s0_0 t810 t811 t812 t813 t814 _ _ _ HRs0_0.out HCs0_0.out (HM.focus [0, 1, 2, 3, 4, 6, 7, 8, 9] [5]) A9.out) ?_ (hargs := by (simp only [List.map_toArray, List.map_cons, List.map_nil, evc, eval_of e22]) <;> rfl))
    rintro e w21 ⟨rfl, hR⟩
    refine ⟨_, rfl, ?_⟩
    replace HM := nzM hR.unfocus
    clear hR
    exact hK.out _ _ ⟨v818, v821, v824, v827, PUT ha 4 hb, (HM).pick [0, 1, 2, 3, 4, 9, 5, 6, 7, 8]⟩
   refine SZ ?_ ?_
   ·rintro b a w ⟨v818, v821, v824, v827, ha, HM⟩ hb hon hoff K hK
    replace ha := Aside0.mk ha
    have e19 := PE ha 0 hon
    have e21 := PE ha 2 hon
    have e23 := PE ha 4 hon
    refine ST (eC (some 24) rfl #[.agg #[.int .i64 a1_0, .int .i64 a1_1, .slice A1_2 l1_2.length c1_2, .slice A1_3 l1_3.length c1_3, .slice A1_4 l1_4.length c1_4], .string t809, .string t812] rfl Try.func166 (spec_Put.calls k a1_0 a1_1 _ _ l1_2 _ _ l1_3 _ _ l1_4 t809 t812 t815 t816 t817 t820 t823 t826 t829 _ (HM.C 0 rfl).2.2 (HM.C 0 rfl).2.1 (HM.C 1 rfl).2.2 (HM.C 1 rfl).2.1 (HM.C 2 rfl).2.2 (HM.C 2 rfl).2.1 A10.out) ?_ (hargs := by (simp only [List.map_toArray, List.map_cons, List.map_nil, evc, eval_of e19, eval_of e21, eval_of e23]) <;> rfl))
    rintro e w22 ⟨v818, v821, v824, v827, rfl, hR⟩
    refine ⟨_, rfl, ?_⟩
    replace HM := HM.call hR
    clear hR
    exact hK.out _ _ ⟨v818, v821, v824, v827, PUT (PCH (PCH (PCH ha 6 (hoff 6 rfl)) 7 (hoff 7 rfl)) 8 (hoff 8 rfl)) 5 hb, ((HM.sF 3 rfl (hoff 10 rfl)).iF 3 rfl (hoff 10 rfl)).pick [0, 1, 2, 3, 4, 5, 10, 11, 12, 13]⟩
   refine SZ ?_ ?_
   ·rintro b a w ⟨v818, v821, v824, v827, ha, HM⟩ hb hon hoff K hK
    replace ha := Aside0.mk ha
    have e24 := PE ha 5 hon
    exact VL (.tuple #[.agg #[.int .i64 t815, .int .i64 t816, v818, v821, v824], v827, .bool t829]) (hK.out _ _ ⟨v818, v821, v824, v827, PUT ha 6 hb, HM⟩)
   refine SZ ?_ ?_
   ·rintro b a w ⟨v818, v821, v824, v827, ha, HM⟩ hb hon hoff K hK
    replace ha := Aside0.mk ha
    have e18 := PE ha 6 hon
    exact VL (.agg #[.int .i64 t815, .int .i64 t816, v818, v821, v824]) (hK.out _ _ ⟨v818, v821, v824, v827, PUT ha 7 hb, HM⟩)
   refine SZ ?_ ?_
   ·rintro b a w ⟨v818, v821, v824, v827, ha, HM⟩ hb hon hoff K hK
    replace ha := Aside0.mk ha
    have e18 := PE ha 6 hon
    exact VL (v827) (hK.out _ _ ⟨v818, v821, v824, v827, PUT ha 8 hb, HM⟩)
   refine SZ ?_ ?_
   ·rintro b a w ⟨v818, v821, v824, v827, ha, HM⟩ hb hon hoff K hK
    replace ha := Aside0.mk ha
    have e18 := PE ha 6 hon
    exact VL (.bool t829) (hK.out _ _ ⟨v818, v821, v824, v827, PUT ha 9 hb, HM⟩)
   refine SZ ?_ ?_
   ·rintro b a w ⟨v818, v821, v824, v827, ha, HM⟩ hb hon hoff K hK
    replace ha := Aside0.mk ha
    replace HM := HM.sF 3 rfl hb
    replace HM := HM.sT 6 rfl (hon 5 rfl)
    replace HM := HM.sT 7 rfl (hon 5 rfl)
    replace HM := HM.sT 8 rfl (hon 5 rfl)
    obtain ⟨Xo23, ko23, rfl⟩ := HM.rdR 6 rfl
    obtain ⟨Xo24, ko24, rfl⟩ := HM.rdR 7 rfl
    obtain ⟨Xo25, ko25, rfl⟩ := HM.rd 8 rfl
    have e3 := PG ha 3
    have e25 := PE ha 7 hon
    refine ST (eS 3 3 0 [.int .i64 t815, .int .i64 t816, .slice Xo23 t817.length ko23, .slice Xo24 t820.length ko24, .slice Xo25 t823.length ko25] HM rfl rfl ?_ (hp := (eval_of e3)) (hx := (by rw [eval_of e25]; rfl)))
    clear HM
    intro w26 HM
    exact hK.out _ _ ⟨.slice Xo23 t817.length ko23, .slice Xo24 t820.length ko24, .slice Xo25 t823.length ko25, v827, PUS ha, (((HM.iT 6 rfl (hon 5 rfl)).iT 7 rfl (hon 5 rfl)).iT 8 rfl (hon 5 rfl)).pick [0, 1, 2, 3, 4, 5, 6, 7, 8, 9]⟩
   exact steps_nil
  rintro _ w27 ⟨v818, v821, v824, v827, rfl, HM⟩
  replace HM := HM.sT 3 rfl rfl
  replace HM := HM.sT 5 rfl rfl
  replace HM := HM.sT 6 rfl rfl
  replace HM := HM.sT 7 rfl rfl
  replace HM := HM.sT 8 rfl rfl
  replace HM := HM.sT 9 rfl rfl
  replace HM := nzM HM
  simp only [putSel, if_true, Act.put, List.setIfInBounds_toArray, List.set_cons_zero, List.set_cons_succ, gt_iff_lt, ge_iff_le]
  simp only [Option.some.injEq, Prod.mk.injEq] at H
  obtain ⟨rfl, rfl, rfl, rfl, rfl, rfl, rfl⟩ := H
  obtain ⟨_,_,_,_,_,_,_,_,_,_⟩ := bk5 (HM.bx 3 rfl)
  obtain ⟨Xo29, ko29, rfl⟩ := HM.rdR 6 rfl
  obtain ⟨Xo30, ko30, rfl⟩ := HM.rdR 7 rfl
  obtain ⟨Xo31, ko31, rfl⟩ := HM.rd 8 rfl
  go_wp2_with (first | ((with_reducible refine gS 4 rfl ?_); refine pS 4 4 0 [.int .i64 t815, .int .i64 t816, .slice Xo29 t817.length ko29, .slice Xo30 t820.length ko30, .slice Xo31 t823.length ko31] HM rfl rfl ?_; clear HM; intro w32 HM))
  refine bodyPost_ret (results_cell_row rfl _ _ gb805 32 #[.int .i64 t815, .int .i64 t816, .slice Xo29 t817.length ko29, .slice Xo30 t820.length ko30, .slice Xo31 t823.length ko31] (0, 0) _ rfl (HM.bx 4 rfl) Try.underlying32 rfl (by kernel_rfl)) rfl ?_
  exact ⟨_, _, _, ER, (MD HM).pick [6, 7, 8, 5, 0, 1, 2]⟩
 ·have c7b0 : decide (t806 < 4) = false := decide_eq_false c7
  clear c7
  first|rw [c7b0]|(simp only [i64_w, i32_w]; rw [c7b0])|skip
  go_upto_if 28 with (fail)
  replace H := IT H; rcases H with ⟨c33, H⟩ | ⟨c33, H⟩
  ·have c33b0 : decide (t806 < 8) = true := decide_eq_true c33
   clear c33
   first|rw [c33b0]|(simp only [i64_w, i32_w]; rw [c33b0])|skip
   try go_wp2
   replace H := BN H; obtain ⟨⟨t830, t831, t832⟩, A34, H⟩ := H
   replace H := BN H; obtain ⟨⟨t833, t834, t835, t838, t841, t844, t845⟩, A35, H⟩ := H
   refine RGN 9 [0, 1, 2, 3, 4, 5, 6, 7, 8] (fun a0 b a w' => ∃ (v836 : Value) (v839 : Value) (v842 : Value), a = putSel a0 b [(0, 32, .agg #[.int .i64 a1_0, .int .i64 a1_1, .slice A1_2 l1_2.length c1_2, .slice A1_3 l1_3.length c1_3, .slice A1_4 l1_4.length c1_4]), (1, 33, .pointer (some ⟨g, 0, none⟩)), (2, 34, .string t830), (3, 35, .tuple #[.agg #[.int .i64 t833, .int .i64 t834, v836, v839, v842], .string t844, .bool t845]), (4, 31, .tuple #[.agg #[.int .i64 t833, .int .i64 t834, v836, v839, v842], .string t844, .bool t845]), (5, 36, .agg #[.int .i64 t833, .int .i64 t834, v836, v839, v842]), (6, 37, .string t844), (7, 38, .bool t845)] ∧ Mem w0 F w' [row k122 122 (.slice A1_2 l1_2.length c1_2) l1_2, row k122 122 (.slice A1_3 l1_3.length c1_3) l1_3, row (Kd.int .i64) 3 (.slice A1_4 l1_4.length c1_4) l1_4, sel (b 8) (box 32 gb804 [.int .i64 t833, .int .i64 t834, v836, v839, v842]) (box 32 gb804 [.int .i64 a1_0, .int .i64 a1_1, .slice A1_2 l1_2.length c1_2, .slice A1_3 l1_3.length c1_3, .slice A1_4 l1_4.length c1_4]), box 32 gb805 [.int .i64 0, .int .i64 0, .slice none 0 0, .slice none 0 0, .slice none 0 0], sel (b 2) (box 110 g [.slice A0_0 s0_0.length c0_0, .int .i64 t831, .int .i64 t832]) (box 110 g [.slice A0_0 s0_0.length c0_0, .int .i64 t807, .int .i64 t808]), sel (b 3) (rowR k122 122 v836 t835) (emp), sel (b 3) (rowR k122 122 v839 t838) (emp), sel (b 3) (rowR (Kd.int .i64) 3 v842 t841) (emp)]) spec_l10Some.tab6 spec_l10Some.bits6 ?_ ?_ ?_
   ·exact ⟨.bool false, .bool false, .bool false, PS0' rfl _, (HM.drew.ems 3).pick [0, 1, 2, 3, 4, 5, 6, 7, 8]⟩
   ·clear HM
    refine SZ ?_ ?_
    ·rintro b a w ⟨v836, v839, v842, ha, HM⟩ hb hon hoff K hK
     replace ha := Aside0.mk ha
     have HZ := HM
     replace HM := HM.sF 3 rfl (hoff 8 rfl)
     obtain ⟨_,_,_,_,_,_,_,_,_,_⟩ := bk5 (HM.bx 3 rfl)
     have e3 := PG ha 3
     exact VL (.agg #[.int .i64 a1_0, .int .i64 a1_1, .slice A1_2 l1_2.length c1_2, .slice A1_3 l1_3.length c1_3, .slice A1_4 l1_4.length c1_4]) (hK.out _ _ ⟨v836, v839, v842, PUT ha 0 hb, HZ⟩)
    refine SZ ?_ ?_
    ·rintro b a w ⟨v836, v839, v842, ha, HM⟩ hb hon hoff K hK
     replace ha := Aside0.mk ha
     have e0 := PG ha 0
     exact VL (.pointer (some ⟨g, 0, none⟩)) (hK.out _ _ ⟨v836, v839, v842, PUT ha 1 hb, HM⟩)
    refine SZ ?_ ?_
    ·rintro b a w ⟨v836, v839, v842, ha, HM⟩ hb hon hoff K hK
     replace ha := Aside0.mk ha
     replace HM := HM.sF 5 rfl hb
     have e33 := PE ha 1 hon
     refine ST (eC (some 34) rfl #[.pointer (some ⟨g, 0, none⟩)] rfl Try.func128 (spec_l10Key.calls g A0_0 c0_0 s0_0 t807 t808 t830 t831 t832 _ _ _ HRs0_0.out HCs0_0.out (HM.focus [0, 1, 2, 3, 4, 6, 7, 8] [5]) A34.out) ?_ (hargs := by (simp only [List.map_toArray, List.map_cons, List.map_nil, evc, eval_of e33]) <;> rfl))
     rintro e w44 ⟨rfl, hR⟩
     refine ⟨_, rfl, ?_⟩
     replace HM := nzM hR.unfocus
     clear hR
     exact hK.out _ _ ⟨v836, v839, v842, PUT ha 2 hb, (HM).pick [0, 1, 2, 3, 4, 8, 5, 6, 7]⟩
    refine SZ ?_ ?_
    ·rintro b a w ⟨v836, v839, v842, ha, HM⟩ hb hon hoff K hK
     replace ha := Aside0.mk ha
     have e32 := PE ha 0 hon
     have e34 := PE ha 2 hon
     refine ST (eC (some 35) rfl #[.agg #[.int .i64 a1_0, .int .i64 a1_1, .slice A1_2 l1_2.length c1_2, .slice A1_3 l1_3.length c1_3, .slice A1_4 l1_4.length c1_4], .string t830] rfl Try.func168 (spec_Get.calls k a1_0 a1_1 _ _ l1_2 _ _ l1_3 _ _ l1_4 t830 t833 t834 t835 t838 t841 t844 t845 _ (HM.C 0 rfl).2.2 (HM.C 0 rfl).2.1 (HM.C 1 rfl).2.2 (HM.C 1 rfl).2.1 (HM.C 2 rfl).2.2 (HM.C 2 rfl).2.1 A35.out) ?_ (hargs := by (simp only [List.map_toArray, List.map_cons, List.map_nil, evc, eval_of e32, eval_of e34]) <;> rfl))
     rintro e w45 ⟨v836, v839, v842, rfl, hR⟩
     refine ⟨_, rfl, ?_⟩
     replace HM := HM.call hR
     clear hR
     exact hK.out _ _ ⟨v836, v839, v842, PUT (PCH (PCH ha 4 (hoff 4 rfl)) 5 (hoff 5 rfl)) 3 hb, ((HM.sF 3 rfl (hoff 8 rfl)).iF 3 rfl (hoff 8 rfl)).pick [0, 1, 2, 3, 4, 5, 9, 10, 11]⟩
    refine SZ ?_ ?_
    ·rintro b a w ⟨v836, v839, v842, ha, HM⟩ hb hon hoff K hK
     replace ha := Aside0.mk ha
     have e35 := PE ha 3 hon
     exact VL (.tuple #[.agg #[.int .i64 t833, .int .i64 t834, v836, v839, v842], .string t844, .bool t845]) (hK.out _ _ ⟨v836, v839, v842, PUT ha 4 hb, HM⟩)
    refine SZ ?_ ?_
    ·rintro b a w ⟨v836, v839, v842, ha, HM⟩ hb hon hoff K hK
     replace ha := Aside0.mk ha
     have e31 := PE ha 4 hon
     exact VL (.agg #[.int .i64 t833, .int .i64 t834, v836, v839, v842]) (hK.out _ _ ⟨v836, v839, v842, PUT ha 5 hb, HM⟩)
    refine SZ ?_ ?_
    ·rintro b a w ⟨v836, v839, v842, ha, HM⟩ hb hon hoff K hK
     replace ha := Aside0.mk ha
     have e31 := PE ha 4 hon
     exact VL (.string t844) (hK.out _ _ ⟨v836, v839, v842, PUT ha 6 hb, HM⟩)
    refine SZ ?_ ?_
    ·rintro b a w ⟨v836, v839, v842, ha, HM⟩ hb hon hoff K hK
     replace ha := Aside0.mk ha
     have e31 := PE ha 4 hon
     exact VL (.bool t845) (hK.out _ _ ⟨v836, v839, v842, PUT ha 7 hb, HM⟩)
    refine SZ ?_ ?_
    ·rintro b a w ⟨v836, v839, v842, ha, HM⟩ hb hon hoff K hK
     replace ha := Aside0.mk ha
     replace HM := HM.sF 3 rfl hb
     replace HM := HM.sT 6 rfl (hon 3 rfl)
     replace HM := HM.sT 7 rfl (hon 3 rfl)
     replace HM := HM.sT 8 rfl (hon 3 rfl)
     obtain ⟨Xo46, ko46, rfl⟩ := HM.rdR 6 rfl
     obtain ⟨Xo47, ko47, rfl⟩ := HM.rdR 7 rfl
     obtain ⟨Xo48, ko48, rfl⟩ := HM.rdR 8 rfl
     have e3 := PG ha 3
     have e36 := PE ha 5 hon
     refine ST (eS 3 3 0 [.int .i64 t833, .int .i64 t834, .slice Xo46 t835.length ko46, .slice Xo47 t838.length ko47, .slice Xo48 t841.length ko48] HM rfl rfl ?_ (hp := (eval_of e3)) (hx := (by rw [eval_of e36]; rfl)))
     clear HM
     intro w49 HM
     exact hK.out _ _ ⟨.slice Xo46 t835.length ko46, .slice Xo47 t838.length ko47, .slice Xo48 t841.length ko48, PUS ha, (((HM.iT 6 rfl (hon 3 rfl)).iT 7 rfl (hon 3 rfl)).iT 8 rfl (hon 3 rfl)).pick [0, 1, 2, 3, 4, 5, 6, 7, 8]⟩
    exact steps_nil
   rintro _ w50 ⟨v836, v839, v842, rfl, HM⟩
   replace HM := HM.sT 3 rfl rfl
   replace HM := HM.sT 5 rfl rfl
   replace HM := HM.sT 6 rfl rfl
   replace HM := HM.sT 7 rfl rfl
   replace HM := HM.sT 8 rfl rfl
   simp only [putSel, if_true, Act.put, List.setIfInBounds_toArray, List.set_cons_zero, List.set_cons_succ, gt_iff_lt, ge_iff_le]
   simp only [Option.some.injEq, Prod.mk.injEq] at H
   obtain ⟨rfl, rfl, rfl, rfl, rfl, rfl, rfl⟩ := H
   obtain ⟨_,_,_,_,_,_,_,_,_,_⟩ := bk5 (HM.bx 3 rfl)
   obtain ⟨Xo52, ko52, rfl⟩ := HM.rdR 6 rfl
   obtain ⟨Xo53, ko53, rfl⟩ := HM.rdR 7 rfl
   obtain ⟨Xo54, ko54, rfl⟩ := HM.rdR 8 rfl
   go_wp2_with (first | ((with_reducible refine gS 4 rfl ?_); refine pS 4 4 0 [.int .i64 t833, .int .i64 t834, .slice Xo52 t835.length ko52, .slice Xo53 t838.length ko53, .slice Xo54 t841.length ko54] HM rfl rfl ?_; clear HM; intro w55 HM; replace HM := HM.toQ 8 rfl))
   refine bodyPost_ret (results_cell_row rfl _ _ gb805 32 #[.int .i64 t833, .int .i64 t834, .slice Xo52 t835.length ko52, .slice Xo53 t838.length ko53, .slice Xo54 t841.length ko54] (0, 0) _ rfl (HM.bx 4 rfl) Try.underlying32 rfl (by kernel_rfl)) rfl ?_
   exact ⟨_, _, _, ER, (MD HM).pick [6, 7, 8, 5, 0, 1, 2]⟩
  ·have c33b0 : decide (t806 < 8) = false := decide_eq_false c33
   clear c33
   first|rw [c33b0]|(simp only [i64_w, i32_w]; rw [c33b0])|skip
   try go_wp2
   replace H := BN H; obtain ⟨⟨t846, t847, t848⟩, A56, H⟩ := H
   replace H := BN H; obtain ⟨⟨t849, t850, t851, t854, t857, t860⟩, A57, H⟩ := H
   refine RGN 8 [0, 1, 2, 3, 4, 5, 6, 7] (fun a0 b a w' => ∃ (v852 : Value) (v855 : Value) (v858 : Value), a = putSel a0 b [(0, 9, .agg #[.int .i64 a1_0, .int .i64 a1_1, .slice A1_2 l1_2.length c1_2, .slice A1_3 l1_3.length c1_3, .slice A1_4 l1_4.length c1_4]), (1, 10, .pointer (some ⟨g, 0, none⟩)), (2, 11, .string t846), (3, 12, .tuple #[.agg #[.int .i64 t849, .int .i64 t850, v852, v855, v858], .bool t860]), (4, 8, .tuple #[.agg #[.int .i64 t849, .int .i64 t850, v852, v855, v858], .bool t860]), (5, 13, .agg #[.int .i64 t849, .int .i64 t850, v852, v855, v858]), (6, 14, .bool t860)] ∧ Mem w0 F w' [row k122 122 (.slice A1_2 l1_2.length c1_2) l1_2, row k122 122 (.slice A1_3 l1_3.length c1_3) l1_3, row (Kd.int .i64) 3 (.slice A1_4 l1_4.length c1_4) l1_4, sel (b 7) (box 32 gb804 [.int .i64 t849, .int .i64 t850, v852, v855, v858]) (box 32 gb804 [.int .i64 a1_0, .int .i64 a1_1, .slice A1_2 l1_2.length c1_2, .slice A1_3 l1_3.length c1_3, .slice A1_4 l1_4.length c1_4]), box 32 gb805 [.int .i64 0, .int .i64 0, .slice none 0 0, .slice none 0 0, .slice none 0 0], sel (b 2) (box 110 g [.slice A0_0 s0_0.length c0_0, .int .i64 t847, .int .i64 t848]) (box 110 g [.slice A0_0 s0_0.length c0_0, .int .i64 t807, .int .i64 t808]), sel (b 3) (rowR k122 122 v852 t851) (emp), sel (b 3) (rowR k122 122 v855 t854) (emp), sel (b 3) (rowR (Kd.int .i64) 3 v858 t857) (emp)]) spec_l10Some.tab2 spec_l10Some.bits2 ?_ ?_ ?_
   ·exact ⟨.bool false, .bool false, .bool false, PS0' rfl _, (HM.drew.ems 3).pick [0, 1, 2, 3, 4, 5, 6, 7, 8]⟩
   ·clear HM
    refine SZ ?_ ?_
    ·rintro b a w ⟨v852, v855, v858, ha, HM⟩ hb hon hoff K hK
     replace ha := Aside0.mk ha
     have HZ := HM
     replace HM := HM.sF 3 rfl (hoff 7 rfl)
     obtain ⟨_,_,_,_,_,_,_,_,_,_⟩ := bk5 (HM.bx 3 rfl)
     have e3 := PG ha 3
     exact VL (.agg #[.int .i64 a1_0, .int .i64 a1_1, .slice A1_2 l1_2.length c1_2, .slice A1_3 l1_3.length c1_3, .slice A1_4 l1_4.length c1_4]) (hK.out _ _ ⟨v852, v855, v858, PUT ha 0 hb, HZ⟩)
    refine SZ ?_ ?_
    ·rintro b a w ⟨v852, v855, v858, ha, HM⟩ hb hon hoff K hK
     replace ha := Aside0.mk ha
     have e0 := PG ha 0
     exact VL (.pointer (some ⟨g, 0, none⟩)) (hK.out _ _ ⟨v852, v855, v858, PUT ha 1 hb, HM⟩)
    refine SZ ?_ ?_
    ·rintro b a w ⟨v852, v855, v858, ha, HM⟩ hb hon hoff K hK
     replace ha := Aside0.mk ha
     replace HM := HM.sF 5 rfl hb
     have e10 := PE ha 1 hon
     refine ST (eC (some 11) rfl #[.pointer (some ⟨g, 0, none⟩)] rfl Try.func128 (spec_l10Key.calls g A0_0 c0_0 s0_0 t807 t808 t846 t847 t848 _ _ _ HRs0_0.out HCs0_0.out (HM.focus [0, 1, 2, 3, 4, 6, 7, 8] [5]) A56.out) ?_ (hargs := by (simp only [List.map_toArray, List.map_cons, List.map_nil, evc, eval_of e10]) <;> rfl))
     rintro e w66 ⟨rfl, hR⟩
     refine ⟨_, rfl, ?_⟩
     replace HM := nzM hR.unfocus
     clear hR
     exact hK.out _ _ ⟨v852, v855, v858, PUT ha 2 hb, (HM).pick [0, 1, 2, 3, 4, 8, 5, 6, 7]⟩
    refine SZ ?_ ?_
    ·rintro b a w ⟨v852, v855, v858, ha, HM⟩ hb hon hoff K hK
     replace ha := Aside0.mk ha
     have e9 := PE ha 0 hon
     have e11 := PE ha 2 hon
     refine ST (eC (some 12) rfl #[.agg #[.int .i64 a1_0, .int .i64 a1_1, .slice A1_2 l1_2.length c1_2, .slice A1_3 l1_3.length c1_3, .slice A1_4 l1_4.length c1_4], .string t846] rfl Try.func169 (spec_Drop.calls k a1_0 a1_1 _ _ l1_2 _ _ l1_3 _ _ l1_4 t846 t849 t850 t851 t854 t857 t860 _ (HM.C 0 rfl).2.2 (HM.C 0 rfl).2.1 (HM.C 1 rfl).2.2 (HM.C 1 rfl).2.1 (HM.C 2 rfl).2.2 (HM.C 2 rfl).2.1 A57.out) ?_ (hargs := by (simp only [List.map_toArray, List.map_cons, List.map_nil, evc, eval_of e9, eval_of e11]) <;> rfl))
     rintro e w67 ⟨v852, v855, v858, rfl, hR⟩
     refine ⟨_, rfl, ?_⟩
     replace HM := HM.call hR
     clear hR
     exact hK.out _ _ ⟨v852, v855, v858, PUT (PCH (PCH ha 4 (hoff 4 rfl)) 5 (hoff 5 rfl)) 3 hb, ((HM.sF 3 rfl (hoff 7 rfl)).iF 3 rfl (hoff 7 rfl)).pick [0, 1, 2, 3, 4, 5, 9, 10, 11]⟩
    refine SZ ?_ ?_
    ·rintro b a w ⟨v852, v855, v858, ha, HM⟩ hb hon hoff K hK
     replace ha := Aside0.mk ha
     have e12 := PE ha 3 hon
     exact VL (.tuple #[.agg #[.int .i64 t849, .int .i64 t850, v852, v855, v858], .bool t860]) (hK.out _ _ ⟨v852, v855, v858, PUT ha 4 hb, HM⟩)
    refine SZ ?_ ?_
    ·rintro b a w ⟨v852, v855, v858, ha, HM⟩ hb hon hoff K hK
     replace ha := Aside0.mk ha
     have e8 := PE ha 4 hon
     exact VL (.agg #[.int .i64 t849, .int .i64 t850, v852, v855, v858]) (hK.out _ _ ⟨v852, v855, v858, PUT ha 5 hb, HM⟩)
    refine SZ ?_ ?_
    ·rintro b a w ⟨v852, v855, v858, ha, HM⟩ hb hon hoff K hK
     replace ha := Aside0.mk ha
     have e8 := PE ha 4 hon
     exact VL (.bool t860) (hK.out _ _ ⟨v852, v855, v858, PUT ha 6 hb, HM⟩)
    refine SZ ?_ ?_
    ·rintro b a w ⟨v852, v855, v858, ha, HM⟩ hb hon hoff K hK
     replace ha := Aside0.mk ha
     replace HM := HM.sF 3 rfl hb
     replace HM := HM.sT 6 rfl (hon 3 rfl)
     replace HM := HM.sT 7 rfl (hon 3 rfl)
     replace HM := HM.sT 8 rfl (hon 3 rfl)
     obtain ⟨Xo68, ko68, rfl⟩ := HM.rdR 6 rfl
     obtain ⟨Xo69, ko69, rfl⟩ := HM.rdR 7 rfl
     obtain ⟨Xo70, ko70, rfl⟩ := HM.rdR 8 rfl
     have e3 := PG ha 3
     have e13 := PE ha 5 hon
     refine ST (eS 3 3 0 [.int .i64 t849, .int .i64 t850, .slice Xo68 t851.length ko68, .slice Xo69 t854.length ko69, .slice Xo70 t857.length ko70] HM rfl rfl ?_ (hp := (eval_of e3)) (hx := (by rw [eval_of e13]; rfl)))
     clear HM
     intro w71 HM
     exact hK.out _ _ ⟨.slice Xo68 t851.length ko68, .slice Xo69 t854.length ko69, .slice Xo70 t857.length ko70, PUS ha, (((HM.iT 6 rfl (hon 3 rfl)).iT 7 rfl (hon 3 rfl)).iT 8 rfl (hon 3 rfl)).pick [0, 1, 2, 3, 4, 5, 6, 7, 8]⟩
    exact steps_nil
   rintro _ w72 ⟨v852, v855, v858, rfl, HM⟩
   replace HM := HM.sT 3 rfl rfl
   replace HM := HM.sT 5 rfl rfl
   replace HM := HM.sT 6 rfl rfl
   replace HM := HM.sT 7 rfl rfl
   replace HM := HM.sT 8 rfl rfl
   simp only [putSel, if_true, Act.put, List.setIfInBounds_toArray, List.set_cons_zero, List.set_cons_succ, gt_iff_lt, ge_iff_le]
   simp only [Option.some.injEq, Prod.mk.injEq] at H
   obtain ⟨rfl, rfl, rfl, rfl, rfl, rfl, rfl⟩ := H
   obtain ⟨_,_,_,_,_,_,_,_,_,_⟩ := bk5 (HM.bx 3 rfl)
   obtain ⟨Xo74, ko74, rfl⟩ := HM.rdR 6 rfl
   obtain ⟨Xo75, ko75, rfl⟩ := HM.rdR 7 rfl
   obtain ⟨Xo76, ko76, rfl⟩ := HM.rdR 8 rfl
   go_wp2_with (first | ((with_reducible refine gS 4 rfl ?_); refine pS 4 4 0 [.int .i64 t849, .int .i64 t850, .slice Xo74 t851.length ko74, .slice Xo75 t854.length ko75, .slice Xo76 t857.length ko76] HM rfl rfl ?_; clear HM; intro w77 HM; replace HM := HM.toQ 8 rfl))
   refine bodyPost_ret (results_cell_row rfl _ _ gb805 32 #[.int .i64 t849, .int .i64 t850, .slice Xo74 t851.length ko74, .slice Xo75 t854.length ko75, .slice Xo76 t857.length ko76] (0, 0) _ rfl (HM.bx 4 rfl) Try.underlying32 rfl (by kernel_rfl)) rfl ?_
   exact ⟨_, _, _, ER, (MD HM).pick [6, 7, 8, 5, 0, 1, 2]⟩
def spec_l10Draw.l0 : Nat → Int → List Int → Int → Int → Int → Int → List (S122) → List (S122) → List Int → Option (Int × Int × (List (S122)) × (List (S122)) × List Int × Int × Int)
 | 0, _, _, _, _, _, _, _, _, _ => none
 | k + 1, x6, x1000, x1001, x1002, x881000, x881001, x881002, x881003, x881004 => if x6 > 0 then ((spec_l10Some.f k x1000 x1001 x1002 x881000 x881001 x881002 x881003 x881004).bind fun bt884 => (spec_l10Draw.l0 k (wrap64 (x6 - 1)) x1000 bt884.2.2.2.2.2.1 bt884.2.2.2.2.2.2 bt884.1 bt884.2.1 bt884.2.2.1 bt884.2.2.2.1 bt884.2.2.2.2.1)) else (some (x881000, x881001, x881002, x881003, x881004, x1001, x1002))
def spec_l10Draw.f (k : Nat) (s0_0 : List Int) (s0_1 : Int) (s0_2 : Int) : Option (Int × Int × (List (S122)) × (List (S122)) × List Int × Int × Int) := (spec_l01Below.f s0_0 s0_1 s0_2 6).bind fun bt862 => ((spec_l01Below.f s0_0 bt862.2.1 bt862.2.2 (wrap64 (1 + bt862.1))).bind fun bt865 => ((spec_ThreeNew.f k (wrap64 (1 + bt862.1)) (wrap64 (1 + bt865.1))).bind fun bt868 => ((spec_l01Below.f s0_0 bt865.2.1 bt865.2.2 24).bind fun bt881 => (spec_l10Draw.l0 k bt881.1 s0_0 bt881.2.1 bt881.2.2 bt868.1 bt868.2.1 bt868.2.2.1 bt868.2.2.2.1 bt868.2.2.2.2.1))))
theorem spec_l10Draw.calls (k : Nat) (g : Nat) (A0_0 : Option Addr) (c0_0 : Nat) (s0_0 : List Int) (s0_1 : Int) (s0_2 : Int) (r1 : Int) (r2 : Int) (r3 : List (S122)) (r4 : List (S122)) (r5 : List Int) (r6 : Int) (r7 : Int) (w0 w : World) (F : List SP) (hrs0_0 : Kd.C (Kd.int .u8) w0 A0_0 s0_0.length s0_0) (hcs0_0 : s0_0.length ≤ c0_0) (hM : Mem w0 F w [box 110 g [.slice A0_0 s0_0.length c0_0, .int .i64 s0_1, .int .i64 s0_2]]) (h : spec_l10Draw.f k s0_0 s0_1 s0_2 = some (r1, r2, r3, r4, r5, r6, r7)) :
  Calls Try.prog 58 #[.pointer (some ⟨g, 0, none⟩)] w fun e w' => ∃ v2_ v3_ v4_ : Value, e = .returned (.agg #[.int .i64 r1, .int .i64 r2, v2_, v3_, v4_]) ∧ Mem w0 F w' [rowR k122 122 v2_ r3, rowR k122 122 v3_ r4, row (Kd.int .i64) 3 v4_ r5, box 110 g [.slice A0_0 s0_0.length c0_0, .int .i64 r6, .int .i64 r7]] := by
 have hu32 := Try.underlying32
 have HRs0_0 := Aside0.mk hrs0_0
 have HCs0_0 := Aside0.mk hcs0_0
 clear hrs0_0 hcs0_0
 have HM := hM
 clear hM
 have H := h
 clear h
 unfold spec_l10Draw.f at H
 go_enter Try.func58, Try.ntmps58
 replace H := BN H; obtain ⟨⟨t862, t863, t864⟩, A3, H⟩ := H
 replace H := BN H; obtain ⟨⟨t865, t866, t867⟩, A5, H⟩ := H
 replace H := BN H; obtain ⟨⟨t868, t869, t870, t873, t876, t879⟩, A7, H⟩ := H
 replace H := BN H; obtain ⟨⟨t881, t882, t883⟩, A14, H⟩ := H
 have H' := Aside0.mk H
 clear H
 go_wp2_with (first | ((with_reducible refine gN 2 rfl ?_); refine pB 2 32 [.int .i64 0, .int .i64 0, .slice none 0 0, .slice none 0 0, .slice none 0 0] HM rfl ?_; clear HM; intro gb861 w2 HM) | ((with_reducible refine gC 73 rfl ?_); refine pC (some 8) rfl #[.pointer (some ⟨g, 0, none⟩), .int .i64 6] rfl Try.func73 (spec_l01Below.calls g A0_0 c0_0 s0_0 s0_1 s0_2 6 t862 t863 t864 _ _ _ HRs0_0.out HCs0_0.out (HM.focus [1] [0]) A3.out) ?_; rintro e w4 ⟨rfl, hR⟩; refine ⟨_, rfl, ?_⟩; replace HM := nzM hR.unfocus; clear hR) | ((with_reducible refine gC 73 rfl ?_); refine pC (some 14) rfl #[.pointer (some ⟨g, 0, none⟩), .int .i64 (wrap64 (1 + t862))] rfl Try.func73 (spec_l01Below.calls g A0_0 c0_0 s0_0 t863 t864 (wrap64 (1 + t862)) t865 t866 t867 _ _ _ HRs0_0.out HCs0_0.out (HM.focus [0] [1]) A5.out) ?_; rintro e w6 ⟨rfl, hR⟩; refine ⟨_, rfl, ?_⟩; replace HM := nzM hR.unfocus; clear hR) | ((with_reducible refine gC 95 rfl ?_); refine pC (some 16) rfl #[.int .i64 (wrap64 (1 + t862)), .int .i64 (wrap64 (1 + t865))] rfl Try.func95 (spec_ThreeNew.calls k (wrap64 (1 + t862)) (wrap64 (1 + t865)) t868 t869 t870 t873 t876 t879 _ A7.out) ?_; rintro e w8 ⟨v871, v874, v877, rfl, hR⟩; refine ⟨_, rfl, ?_⟩; replace HM := HM.call hR; clear hR) | ((with_reducible refine gN 4 rfl ?_); refine pB 4 32 [.int .i64 0, .int .i64 0, .slice none 0 0, .slice none 0 0, .slice none 0 0] HM rfl ?_; clear HM; intro gb880 w9 HM; obtain ⟨Xo10, ko10, rfl⟩ := HM.rdR 2 rfl; obtain ⟨Xo11, ko11, rfl⟩ := HM.rdR 3 rfl; obtain ⟨Xo12, ko12, rfl⟩ := HM.rdR 4 rfl) | ((with_reducible refine gS 4 rfl ?_); refine pS 5 4 0 [.int .i64 t868, .int .i64 t869, .slice Xo10 t870.length ko10, .slice Xo11 t873.length ko11, .slice Xo12 t876.length ko12] HM rfl rfl ?_; clear HM; intro w13 HM) | ((with_reducible refine gC 73 rfl ?_); refine pC (some 20) rfl #[.pointer (some ⟨g, 0, none⟩), .int .i64 24] rfl Try.func73 (spec_l01Below.calls g A0_0 c0_0 s0_0 t866 t867 24 t881 t882 t883 _ _ _ HRs0_0.out HCs0_0.out (HM.focus [0, 2, 3, 4, 5] [1]) A14.out) ?_; rintro e w15 ⟨rfl, hR⟩; refine ⟨_, rfl, ?_⟩; replace HM := nzM hR.unfocus; clear hR; replace HM := HM.toQ 3 rfl))
 go_loopg [6] k (fun kq v6 w' => ∃ (x6_1 : Int) (x1001_1 : Int) (x1002_1 : Int) (x881000_1 : Int) (x881001_1 : Int) (x881002_1 : List (S122)) (x881003_1 : List (S122)) (x881004_1 : List Int) (u881002 : Value) (u881003 : Value) (u881004 : Value), v6 = .int .i64 x6_1 ∧ Aside0 (spec_l10Draw.l0 kq x6_1 s0_0 x1001_1 x1002_1 x881000_1 x881001_1 x881002_1 x881003_1 x881004_1 = some (r1, r2, r3, r4, r5, r6, r7)) ∧ Aside0 (kq ≤ k) ∧ Mem w0 F w' [rowR k122 122 u881002 x881002_1, rowR k122 122 u881003 x881003_1, row (Kd.int .i64) 3 u881004 x881004_1, box 32 gb861 [.int .i64 0, .int .i64 0, .slice none 0 0, .slice none 0 0, .slice none 0 0], box 32 gb880 [.int .i64 x881000_1, .int .i64 x881001_1, u881002, u881003, u881004], box 110 g [.slice A0_0 s0_0.length c0_0, .int .i64 x1001_1, .int .i64 x1002_1]])
 case atStart => exact ⟨(t881), (t882), (t883), (t868), (t869), (t870), (t873), (t876), (.slice Xo10 t870.length ko10), (.slice Xo11 t873.length ko11), (.slice Xo12 t876.length ko12), RS, H', ⟨Nat.le_refl _⟩, (MD HM).pick [1, 2, 3, 0, 4, 5]⟩
 case round =>
  clear H' HM
  obtain ⟨x6_1, x1001_1, x1002_1, x881000_1, x881001_1, x881002_1, x881003_1, x881004_1, u881002, u881003, u881004, rfl, HA, HK1, HM⟩ := hrel
  cases gk with
  | zero => exact absurd HA.out (by simp [spec_l10Draw.l0])
  | succ k1 =>
   have H := HA.out
   clear HA
   simp only [spec_l10Draw.l0] at H
   go_upto_if 22 with (fail)
   replace H := IT H; rcases H with ⟨c16, H⟩ | ⟨c16, H⟩
   ·have c16b0 : decide (0 < x6_1) = true := decide_eq_true c16
    clear c16
    first|rw [c16b0]|(simp only [i64_w, i32_w]; rw [c16b0])|skip
    replace H := BN H; obtain ⟨⟨t884, t885, t886, t889, t892, t895, t896⟩, A18, H⟩ := H
    have H' := Aside0.mk H
    clear H
    obtain ⟨_,_,_,_,_,_,_,_,_,_⟩ := bk5 (HM.bx 4 rfl)
    obtain ⟨Xo20, ko20, rfl⟩ := HM.rdR 0 rfl
    replace HM := HM.toQ 0 rfl
    obtain ⟨Xo21, ko21, rfl⟩ := HM.rdR 1 rfl
    replace HM := HM.toQ 1 rfl
    obtain ⟨Xo22, ko22, rfl⟩ := HM.rd 2 rfl
    go_wp2_with (first | ((with_reducible refine gC 118 rfl ?_); refine pC (some 27) rfl #[.pointer (some ⟨g, 0, none⟩), .agg #[.int .i64 x881000_1, .int .i64 x881001_1, .slice Xo20 x881002_1.length ko20, .slice Xo21 x881003_1.length ko21, .slice Xo22 x881004_1.length ko22]] rfl Try.func118 (spec_l10Some.calls k1 g A0_0 c0_0 s0_0 x1001_1 x1002_1 x881000_1 x881001_1 Xo20 ko20 x881002_1 Xo21 ko21 x881003_1 Xo22 ko22 x881004_1 t884 t885 t886 t889 t892 t895 t896 _ _ _ HRs0_0.out HCs0_0.out (HM.focus [3, 4] [5, 0, 1, 2]) A18.out) ?_; rintro e w19 ⟨v887, v890, v893, rfl, hR⟩; refine ⟨_, rfl, ?_⟩; replace HM := nzM hR.unfocus; clear hR; obtain ⟨Xo23, ko23, rfl⟩ := HM.rdR 2 rfl; obtain ⟨Xo24, ko24, rfl⟩ := HM.rdR 3 rfl; obtain ⟨Xo25, ko25, rfl⟩ := HM.rd 4 rfl) | ((with_reducible refine gS 4 rfl ?_); refine pS 1 4 0 [.int .i64 t884, .int .i64 t885, .slice Xo23 t886.length ko23, .slice Xo24 t889.length ko24, .slice Xo25 t892.length ko25] HM rfl rfl ?_; clear HM; intro w26 HM))
    go_roundg k1
    case measure => have := HK1.out; omega
    case rel => exact ⟨(wrap64 (x6_1 - 1)), (t895), (t896), (t884), (t885), (t886), (t889), (t892), (.slice Xo23 t886.length ko23), (.slice Xo24 t889.length ko24), (.slice Xo25 t892.length ko25), RS, H', ⟨by have := HK1.out; omega⟩, (MD HM).pick [2, 3, 4, 0, 1, 5]⟩
   ·have c16b0 : decide (0 < x6_1) = false := decide_eq_false c16
    clear c16
    first|rw [c16b0]|(simp only [i64_w, i32_w]; rw [c16b0])|skip
    simp only [Option.some.injEq, Prod.mk.injEq] at H
    obtain ⟨rfl, rfl, rfl, rfl, rfl, rfl, rfl⟩ := H
    obtain ⟨_,_,_,_,_,_,_,_,_,_⟩ := bk5 (HM.bx 4 rfl)
    obtain ⟨Xo28, ko28, rfl⟩ := HM.rdR 0 rfl
    obtain ⟨Xo29, ko29, rfl⟩ := HM.rdR 1 rfl
    obtain ⟨Xo30, ko30, rfl⟩ := HM.rd 2 rfl
    go_wp2_with (first | ((with_reducible refine gS 2 rfl ?_); refine pS 3 2 0 [.int .i64 x881000_1, .int .i64 x881001_1, .slice Xo28 x881002_1.length ko28, .slice Xo29 x881003_1.length ko29, .slice Xo30 x881004_1.length ko30] HM rfl rfl ?_; clear HM; intro w31 HM))
    refine bodyPost_ret (results_cell_row rfl _ _ gb861 32 #[.int .i64 x881000_1, .int .i64 x881001_1, .slice Xo28 x881002_1.length ko28, .slice Xo29 x881003_1.length ko29, .slice Xo30 x881004_1.length ko30] (0, 0) _ rfl (HM.bx 3 rfl) Try.underlying32 rfl (by kernel_rfl)) rfl ?_
    exact ⟨_, _, _, ER, (MD HM).pick [0, 1, 2, 5]⟩
def spec_MakeThree.f (k : Nat) (l0 : List Int) : Option (Int × Int × (List (S122)) × (List (S122)) × List Int) := (spec_l01New.f k l0).bind fun bt898 => ((spec_l10Draw.f k bt898.1 bt898.2.1 (wrap64 (bt898.2.2 + 41))).bind fun bt902 => (some (bt902.1, bt902.2.1, bt902.2.2.1, bt902.2.2.2.1, bt902.2.2.2.2.1)))
theorem spec_MakeThree.calls (k : Nat) (A0 : Option Addr) (c0 : Nat) (l0 : List Int) (r1 : Int) (r2 : Int) (r3 : List (S122)) (r4 : List (S122)) (r5 : List Int) (w : World) (hr0 : Kd.C (Kd.int .u8) w A0 l0.length l0) (hc0 : l0.length ≤ c0) (h : spec_MakeThree.f k l0 = some (r1, r2, r3, r4, r5)) :
  Calls Try.prog 13 #[.slice A0 l0.length c0] w fun e w' => ∃ v2_ v3_ v4_ : Value, e = .returned (.agg #[.int .i64 r1, .int .i64 r2, v2_, v3_, v4_]) ∧ Mem w [] w' [rowR k122 122 v2_ r3, rowR k122 122 v3_ r4, row (Kd.int .i64) 3 v4_ r5] := by
 have hu32 := Try.underlying32
 have HR0 := Aside0.mk hr0
 have HC0 := Aside0.mk hc0
 clear hr0 hc0
 have HM := Mem.nil w
 have H := h
 clear h
 unfold spec_MakeThree.f at H
 go_enter Try.func13, Try.ntmps13
 replace H := BN H; obtain ⟨⟨t898, t899, t900⟩, A3, H⟩ := H
 replace H := BN H; obtain ⟨⟨t902, t903, t904, t907, t910, t913, t914⟩, A8, H⟩ := H
 simp only [Option.some.injEq, Prod.mk.injEq] at H
 obtain ⟨rfl, rfl, rfl, rfl, rfl⟩ := H
 go_wp2_with (first | ((with_reducible refine gN 2 rfl ?_); refine pB 2 32 [.int .i64 0, .int .i64 0, .slice none 0 0, .slice none 0 0, .slice none 0 0] HM rfl ?_; clear HM; intro gb897 w2 HM) | ((with_reducible refine gC 57 rfl ?_); refine pC (some 6) rfl #[.slice A0 l0.length c0] rfl Try.func57 (spec_l01New.calls k _ _ l0 t898 t899 t900 _ _ HM.bel HR0.out HC0.out A3.out) ?_; rintro e w4 ⟨gb901, Xn5, kn5, rfl, hR, hRn5, hCn5⟩; refine ⟨_, rfl, ?_⟩; have HRn5 := Aside0.mk hRn5; have HCn5 := Aside0.mk hCn5; clear hRn5 hCn5; replace HM := HM.call hR; clear hR; obtain ⟨_,_,_,_,_,_⟩ := bk3 (HM.bx 1 rfl)) | ((with_reducible refine gS 14 rfl ?_); refine pS 1 14 2 [.int .i64 (wrap64 (t900 + 41))] HM rfl rfl ?_; clear HM; intro w7 HM) | ((with_reducible refine gC 58 rfl ?_); refine pC (some 16) rfl #[.pointer (some ⟨gb901, 0, none⟩)] rfl Try.func58 (spec_l10Draw.calls k gb901 Xn5 kn5 t898 t899 (wrap64 (t900 + 41)) t902 t903 t904 t907 t910 t913 t914 _ _ _ HRn5.out HCn5.out (HM.focus [0] [1]) A8.out) ?_; rintro e w9 ⟨v905, v908, v911, rfl, hR⟩; refine ⟨_, rfl, ?_⟩; replace HM := nzM hR.unfocus; clear hR) | ((with_reducible refine gN 4 rfl ?_); refine pB 4 32 [.int .i64 0, .int .i64 0, .slice none 0 0, .slice none 0 0, .slice none 0 0] HM rfl ?_; clear HM; intro gb915 w10 HM; obtain ⟨Xo11, ko11, rfl⟩ := HM.rdR 1 rfl; obtain ⟨Xo12, ko12, rfl⟩ := HM.rdR 2 rfl; obtain ⟨Xo13, ko13, rfl⟩ := HM.rd 3 rfl) | ((with_reducible refine gS 4 rfl ?_); refine pS 5 4 0 [.int .i64 t902, .int .i64 t903, .slice Xo11 t904.length ko11, .slice Xo12 t907.length ko12, .slice Xo13 t910.length ko13] HM rfl rfl ?_; clear HM; intro w14 HM; obtain ⟨_,_,_,_,_,_,_,_,_,_⟩ := bk5 (HM.bx 5 rfl)) | ((with_reducible refine gS 2 rfl ?_); refine pS 0 2 0 [.int .i64 t902, .int .i64 t903, .slice Xo11 t904.length ko11, .slice Xo12 t907.length ko12, .slice Xo13 t910.length ko13] HM rfl rfl ?_; clear HM; intro w16 HM))
 refine bodyPost_ret (results_cell_row rfl _ _ gb897 32 #[.int .i64 t902, .int .i64 t903, .slice Xo11 t904.length ko11, .slice Xo12 t907.length ko12, .slice Xo13 t910.length ko13] (0, 0) _ rfl (HM.bx 0 rfl) Try.underlying32 rfl (by kernel_rfl)) rfl ?_
 exact ⟨_, _, _, ER, (MD HM).pick [1, 2, 3]⟩
def spec_l16Op.f (s0_0 : List Int) (s0_1 : Int) (s0_2 : Int) : Option (Int × ByteArray × ByteArray × Int × Int) := (spec_l01Below.f s0_0 s0_1 s0_2 3).bind fun bt1073 => ((spec_l10Key.f s0_0 bt1073.2.1 bt1073.2.2).bind fun bt1076 => (if (wrap64 (1 + bt1073.1)) = 2 then ((spec_l10Val.f s0_0 bt1076.2.1 bt1076.2.2).bind fun bt1080 => (some (wrap64 (1 + bt1073.1), bt1076.1, bt1080.1, bt1080.2.1, bt1080.2.2))) else (some (wrap64 (1 + bt1073.1), bt1076.1, (⟨#[]⟩ : ByteArray), bt1076.2.1, bt1076.2.2))))
theorem spec_l16Op.calls (g : Nat) (A0_0 : Option Addr) (c0_0 : Nat) (s0_0 : List Int) (s0_1 : Int) (s0_2 : Int) (r1 : Int) (r2 : ByteArray) (r3 : ByteArray) (r4 : Int) (r5 : Int) (w0 w : World) (F : List SP) (hrs0_0 : Kd.C (Kd.int .u8) w0 A0_0 s0_0.length s0_0) (hcs0_0 : s0_0.length ≤ c0_0) (hM : Mem w0 F w [box 110 g [.slice A0_0 s0_0.length c0_0, .int .i64 s0_1, .int .i64 s0_2]]) (h : spec_l16Op.f s0_0 s0_1 s0_2 = some (r1, r2, r3, r4, r5)) :
  Calls Try.prog 126 #[.pointer (some ⟨g, 0, none⟩)] w fun e w' => e = .returned (.agg #[.int .i64 r1, .string r2, .string r3]) ∧ Mem w0 F w' [box 110 g [.slice A0_0 s0_0.length c0_0, .int .i64 r4, .int .i64 r5]] := by
 have hu43 := Try.underlying43
 have HRs0_0 := Aside0.mk hrs0_0
 have HCs0_0 := Aside0.mk hcs0_0
 clear hrs0_0 hcs0_0
 have HM := hM
 clear hM
 have H := h
 clear h
 unfold spec_l16Op.f at H
 go_enter Try.func126, Try.ntmps126
 replace H := BN H; obtain ⟨⟨t1073, t1074, t1075⟩, A3, H⟩ := H
 replace H := BN H; obtain ⟨⟨t1076, t1077, t1078⟩, A5, H⟩ := H
 go_upto_if 12 with (first | ((with_reducible refine gN 2 rfl ?_); refine pB 2 43 [.int .i64 0, .string (⟨#[]⟩ : ByteArray), .string (⟨#[]⟩ : ByteArray)] HM rfl ?_; clear HM; intro gb1072 w2 HM) | ((with_reducible refine gC 73 rfl ?_); refine pC (some 5) rfl #[.pointer (some ⟨g, 0, none⟩), .int .i64 3] rfl Try.func73 (spec_l01Below.calls g A0_0 c0_0 s0_0 s0_1 s0_2 3 t1073 t1074 t1075 _ _ _ HRs0_0.out HCs0_0.out (HM.focus [1] [0]) A3.out) ?_; rintro e w4 ⟨rfl, hR⟩; refine ⟨_, rfl, ?_⟩; replace HM := nzM hR.unfocus; clear hR) | ((with_reducible refine gC 128 rfl ?_); refine pC (some 8) rfl #[.pointer (some ⟨g, 0, none⟩)] rfl Try.func128 (spec_l10Key.calls g A0_0 c0_0 s0_0 t1074 t1075 t1076 t1077 t1078 _ _ _ HRs0_0.out HCs0_0.out (HM.focus [0] [1]) A5.out) ?_; rintro e w6 ⟨rfl, hR⟩; refine ⟨_, rfl, ?_⟩; replace HM := nzM hR.unfocus; clear hR) | ((with_reducible refine gN 3 rfl ?_); refine pB 3 43 [.int .i64 0, .string (⟨#[]⟩ : ByteArray), .string (⟨#[]⟩ : ByteArray)] HM rfl ?_; clear HM; intro gb1079 w7 HM) | ((with_reducible refine gS 3 rfl ?_); refine pS 2 3 0 [.int .i64 (wrap64 (1 + t1073)), .string t1076, .string (⟨#[]⟩ : ByteArray)] HM rfl rfl ?_; clear HM; intro w8 HM; obtain ⟨_,_,_,_,_,_⟩ := bk3 (HM.bx 2 rfl)))
 replace HM := nzM HM
 replace H := IT H; rcases H with ⟨c10, H⟩ | ⟨c10, H⟩
 ·have c10b0 : ((wrap64 (1 + t1073)) == 2) = true := beq_iff_eq.mpr c10
  have c10b1 : ((wrap64 (1 + t1073)) != 2) = false := bne_eq_false_iff_eq.mpr c10
  clear c10
  first|rw [c10b0]|(simp only [i64_w, i32_w]; rw [c10b0])|skip
  replace H := BN H; obtain ⟨⟨t1080, t1081, t1082⟩, A11, H⟩ := H
  simp only [Option.some.injEq, Prod.mk.injEq] at H
  obtain ⟨rfl, rfl, rfl, rfl, rfl⟩ := H
  go_wp2_with (first | ((with_reducible refine gC 167 rfl ?_); refine pC (some 14) rfl #[.pointer (some ⟨g, 0, none⟩)] rfl Try.func167 (spec_l10Val.calls g A0_0 c0_0 s0_0 t1077 t1078 t1080 t1081 t1082 _ _ _ HRs0_0.out HCs0_0.out (HM.focus [0, 2] [1]) A11.out) ?_; rintro e w12 ⟨rfl, hR⟩; refine ⟨_, rfl, ?_⟩; replace HM := nzM hR.unfocus; clear hR) | ((with_reducible refine gS 15 rfl ?_); refine pS 1 15 2 [.string t1080] HM rfl rfl ?_; clear HM; intro w13 HM; obtain ⟨_,_,_,_,_,_⟩ := bk3 (HM.bx 1 rfl)) | ((with_reducible refine gS 2 rfl ?_); refine pS 0 2 0 [.int .i64 (wrap64 (1 + t1073)), .string t1076, .string t1080] HM rfl rfl ?_; clear HM; intro w15 HM))
  refine bodyPost_ret (results_cell_row rfl _ _ gb1072 43 #[.int .i64 (wrap64 (1 + t1073)), .string t1076, .string t1080] (0, 0) _ rfl (HM.bx 0 rfl) Try.underlying43 rfl (by kernel_rfl)) rfl ?_
  exact ⟨ER, (MD HM).pick [2]⟩
 ·have c10b0 : ((wrap64 (1 + t1073)) == 2) = false := beq_eq_false_iff_ne.mpr c10
  have c10b1 : ((wrap64 (1 + t1073)) != 2) = true := bne_iff_ne.mpr c10
  first|rw [c10b0]|(simp only [i64_w, i32_w]; rw [c10b0])|skip
  simp only [Option.some.injEq, Prod.mk.injEq] at H
  obtain ⟨rfl, rfl, rfl, rfl, rfl⟩ := H
  go_wp2_with (first | ((with_reducible refine gS 2 rfl ?_); refine pS 0 2 0 [.int .i64 (wrap64 (1 + t1073)), .string t1076, .string (⟨#[]⟩ : ByteArray)] HM rfl rfl ?_; clear HM; intro w16 HM))
  refine bodyPost_ret (results_cell_row rfl _ _ gb1072 43 #[.int .i64 (wrap64 (1 + t1073)), .string t1076, .string (⟨#[]⟩ : ByteArray)] (0, 0) _ rfl (HM.bx 0 rfl) Try.underlying43 rfl (by kernel_rfl)) rfl ?_
  exact ⟨ER, (MD HM).pick [1]⟩
def spec_l16Ops.l0 : Nat → List (S43) → Int → List Int → Int → Int → Option ((List (S43)) × Int × Int)
 | 0, _, _, _, _, _ => none
 | k + 1, x5, x6, x1000, x1001, x1002 => if x6 > 0 then ((spec_l16Op.f x1000 x1001 x1002).bind fun bt1089 => (if x5.length < 3518437208883 then (spec_l16Ops.l0 k (x5 ++ [(⟨bt1089.1, bt1089.2.1, bt1089.2.2.1⟩ : S43)]) (wrap64 (x6 - 1)) x1000 bt1089.2.2.2.1 bt1089.2.2.2.2) else (none))) else (some (x5, x1001, x1002))
def spec_l16Ops.f (k : Nat) (s0_0 : List Int) (s0_1 : Int) (s0_2 : Int) (a1 : Int) : Option ((List (S43)) × Int × Int) := (spec_l01Below.f s0_0 s0_1 s0_2 (wrap64 (a1 + 1))).bind fun bt1086 => (spec_l16Ops.l0 k (([] : List (S43))) bt1086.1 s0_0 bt1086.2.1 bt1086.2.2)
theorem spec_l16Ops.calls (k : Nat) (g : Nat) (A0_0 : Option Addr) (c0_0 : Nat) (s0_0 : List Int) (s0_1 : Int) (s0_2 : Int) (a1 : Int) (r1 : List (S43)) (r2 : Int) (r3 : Int) (w0 w : World) (F : List SP) (hrs0_0 : Kd.C (Kd.int .u8) w0 A0_0 s0_0.length s0_0) (hcs0_0 : s0_0.length ≤ c0_0) (hM : Mem w0 F w [box 110 g [.slice A0_0 s0_0.length c0_0, .int .i64 s0_1, .int .i64 s0_2]]) (h : spec_l16Ops.f k s0_0 s0_1 s0_2 a1 = some (r1, r2, r3)) :
  Calls Try.prog 68 #[.pointer (some ⟨g, 0, none⟩), .int .i64 a1] w fun e w' => ∃ v0_ : Value, e = .returned (v0_) ∧ Mem w0 F w' [rowR k43 43 v0_ r1, box 110 g [.slice A0_0 s0_0.length c0_0, .int .i64 r2, .int .i64 r3]] := by
 have HRs0_0 := Aside0.mk hrs0_0
 have HCs0_0 := Aside0.mk hcs0_0
 clear hrs0_0 hcs0_0
 have HM := hM
 clear hM
 have H := h
 clear h
 unfold spec_l16Ops.f at H
 go_enter Try.func68, Try.ntmps68
 replace H := BN H; obtain ⟨⟨t1086, t1087, t1088⟩, A4, H⟩ := H
 have H' := Aside0.mk H
 clear H
 go_wp2_with (first | ((with_reducible refine gN 7 rfl ?_); refine pL 7 k43 43 ([] : List (S43)) [] (Reps.none _ _) HM rfl ?_; clear HM; intro v1084 w3 HM) | ((with_reducible refine gC 73 rfl ?_); refine pC (some 11) rfl #[.pointer (some ⟨g, 0, none⟩), .int .i64 (wrap64 (a1 + 1))] rfl Try.func73 (spec_l01Below.calls g A0_0 c0_0 s0_0 s0_1 s0_2 (wrap64 (a1 + 1)) t1086 t1087 t1088 _ _ _ HRs0_0.out HCs0_0.out (HM.focus [1] [0]) A4.out) ?_; rintro e w5 ⟨rfl, hR⟩; refine ⟨_, rfl, ?_⟩; replace HM := nzM hR.unfocus; clear hR))
 go_loopg [5, 6] k (fun kq v5 v6 w' => ∃ (x5_1 : List (S43)) (x6_1 : Int) (x1001_1 : Int) (x1002_1 : Int), v6 = .int .i64 x6_1 ∧ Aside0 (spec_l16Ops.l0 kq x5_1 x6_1 s0_0 x1001_1 x1002_1 = some (r1, r2, r3)) ∧ Aside0 (kq ≤ k) ∧ Mem w0 F w' [rowR k43 43 v5 x5_1, box 110 g [.slice A0_0 s0_0.length c0_0, .int .i64 x1001_1, .int .i64 x1002_1]])
 case atStart => exact ⟨((([] : List (S43)))), (t1086), (t1087), (t1088), RS, H', ⟨Nat.le_refl _⟩, (MD HM).pick [0, 1]⟩
 case round =>
  clear H' HM
  obtain ⟨x5_1, x6_1, x1001_1, x1002_1, rfl, HA, HK1, HM⟩ := hrel
  cases gk with
  | zero => exact absurd HA.out (by simp [spec_l16Ops.l0])
  | succ k1 =>
   have H := HA.out
   clear HA
   simp only [spec_l16Ops.l0] at H
   go_upto_if 13 with (fail)
   replace H := IT H; rcases H with ⟨c6, H⟩ | ⟨c6, H⟩
   ·have c6b0 : decide (0 < x6_1) = true := decide_eq_true c6
    clear c6
    first|rw [c6b0]|(simp only [i64_w, i32_w]; rw [c6b0])|skip
    replace H := BN H; obtain ⟨⟨t1089, t1090, t1091, t1092, t1093⟩, A7, H⟩ := H
    replace H := GD H; obtain ⟨c9, H⟩ := H
    have LMc9 := Aside0.mk c9
    clear c9
    have H' := Aside0.mk H
    clear H
    go_wp2_with (first | ((with_reducible refine gC 126 rfl ?_); refine pC (some 18) rfl #[.pointer (some ⟨g, 0, none⟩)] rfl Try.func126 (spec_l16Op.calls g A0_0 c0_0 s0_0 x1001_1 x1002_1 t1089 t1090 t1091 t1092 t1093 _ _ _ HRs0_0.out HCs0_0.out (HM.focus [0] [1]) A7.out) ?_; rintro e w8 ⟨rfl, hR⟩; refine ⟨_, rfl, ?_⟩; replace HM := nzM hR.unfocus; clear hR) | ((with_reducible refine gN 19 rfl ?_); refine pL 19 k43 43 [(⟨t1089, t1090, t1091⟩ : S43)] [.int .i64 t1089, .string t1090, .string t1091] (Reps.c3 (show Kd.M k43 _ _ _ (⟨t1089, t1090, t1091⟩ : S43) [.int .i64 t1089, .string t1090, .string t1091] from (k43_mkM _ _ _ (⟨t1089, t1090, t1091⟩ : S43))) (Reps.none _ _)) HM rfl ?_; clear HM; intro v11 w10 HM; obtain ⟨Xv11, kv11, rfl⟩ := HM.rdR 2 rfl) | ((with_reducible refine gate_builtin (b := .append) (xs := #[.tmp 16, .tmp 19]) rfl ?_); refine pA 0 (.tmp 16) (.tmp 19) 40 43 k43 u5 x5_1 [(⟨t1089, t1090, t1091⟩ : S43)] Xv11 ([(⟨t1089, t1090, t1091⟩ : S43)].length) kv11 HM rfl Try.underlying40 info43 rfl (HM.CR 2 rfl).2.2 (by have h_ := LMc9.out; simp only [List.length_singleton]; omega) ?_; clear HM; intro v1095 w12 HM))
    go_roundg k1
    case measure => have := HK1.out; omega
    case rel => exact ⟨((x5_1 ++ [(⟨t1089, t1090, t1091⟩ : S43)])), (wrap64 (x6_1 - 1)), (t1092), (t1093), RS, H', ⟨by have := HK1.out; omega⟩, (MD HM).pick [0, 1]⟩
   ·have c6b0 : decide (0 < x6_1) = false := decide_eq_false c6
    clear c6
    first|rw [c6b0]|(simp only [i64_w, i32_w]; rw [c6b0])|skip
    simp only [Option.some.injEq, Prod.mk.injEq] at H
    obtain ⟨rfl, rfl, rfl⟩ := H
    go_wp2
    go_ret
    exact ⟨_, ER, (MD HM).pick [0, 1]⟩
def spec_MakeOps.f (k : Nat) (l0 : List Int) (a1 : Int) : Option ((List (S43))) := (spec_l01New.f k l0).bind fun bt1097 => ((spec_l16Ops.f k bt1097.1 bt1097.2.1 (wrap64 (bt1097.2.2 + 91)) a1).bind fun bt1101 => (some bt1101.1))
theorem spec_MakeOps.calls (k : Nat) (A0 : Option Addr) (c0 : Nat) (l0 : List Int) (a1 : Int) (r : List (S43)) (w : World) (hr0 : Kd.C (Kd.int .u8) w A0 l0.length l0) (hc0 : l0.length ≤ c0) (h : spec_MakeOps.f k l0 a1 = some r) :
  Calls Try.prog 19 #[.slice A0 l0.length c0, .int .i64 a1] w fun e w' => ∃ v0_ : Value, e = .returned (v0_) ∧ Mem w [] w' [rowR k43 43 v0_ r] := by
 have HR0 := Aside0.mk hr0
 have HC0 := Aside0.mk hc0
 clear hr0 hc0
 have HM := Mem.nil w
 have H := h
 clear h
 unfold spec_MakeOps.f at H
 go_enter Try.func19, Try.ntmps19
 replace H := BN H; obtain ⟨⟨t1097, t1098, t1099⟩, A3, H⟩ := H
 replace H := BN H; obtain ⟨⟨t1101, t1104, t1105⟩, A8, H⟩ := H
 obtain rfl := Option.some.inj H
 go_wp2_with (first | ((with_reducible refine gC 57 rfl ?_); refine pC (some 8) rfl #[.slice A0 l0.length c0] rfl Try.func57 (spec_l01New.calls k _ _ l0 t1097 t1098 t1099 _ _ HM.bel HR0.out HC0.out A3.out) ?_; rintro e w4 ⟨gb1100, Xn5, kn5, rfl, hR, hRn5, hCn5⟩; refine ⟨_, rfl, ?_⟩; have HRn5 := Aside0.mk hRn5; have HCn5 := Aside0.mk hCn5; clear hRn5 hCn5; replace HM := HM.call hR; clear hR; obtain ⟨_,_,_,_,_,_⟩ := bk3 (HM.bx 0 rfl)) | ((with_reducible refine gS 16 rfl ?_); refine pS 0 16 2 [.int .i64 (wrap64 (t1099 + 91))] HM rfl rfl ?_; clear HM; intro w7 HM) | ((with_reducible refine gC 68 rfl ?_); refine pC (some 19) rfl #[.pointer (some ⟨gb1100, 0, none⟩), .int .i64 a1] rfl Try.func68 (spec_l16Ops.calls k gb1100 Xn5 kn5 t1097 t1098 (wrap64 (t1099 + 91)) a1 t1101 t1104 t1105 _ _ _ HRn5.out HCn5.out (HM.focus [] [0]) A8.out) ?_; rintro e w9 ⟨v1102, rfl, hR⟩; refine ⟨_, rfl, ?_⟩; replace HM := nzM hR.unfocus; clear hR))
 go_ret
 exact ⟨_, ER, (MD HM).pick [0]⟩
mutual
def spec_l12Asks.l0 : Nat → List ByteArray → Int → List Int → Int → Int → Option (List ByteArray × Int × Int)
 | 0, _, _, _, _, _ => none
 | k + 1, x5, x6, x1000, x1001, x1002 => if x6 > 0 then ((spec_l01Below.f x1000 x1001 x1002 3).bind fun bt1112 => (if bt1112.1 = 0 then (spec_l12Asks.j1 k x5 x6 (decide ((x5.length : Int) > 0)) x1000 bt1112.2.1 bt1112.2.2) else (spec_l12Asks.j1 k x5 x6 false x1000 bt1112.2.1 bt1112.2.2))) else (some (x5, x1001, x1002))
def spec_l12Asks.j1 : Nat → List ByteArray → Int → Bool → List Int → Int → Int → Option (List ByteArray × Int × Int)
 | 0, _, _, _, _, _, _ => none
 | k + 1, x5, x6, x25, x1000, x1001, x1002 => if x25 = true then ((spec_l01Below.f x1000 x1001 x1002 (x5.length : Int)).bind fun bt1115 => (if 0 ≤ bt1115.1 then (if bt1115.1 < (x5.length : Int) then (if x5.length < 8796093022208 then (spec_l12Asks.l0 k (x5 ++ [rdOf ByteArray.empty x5 bt1115.1]) (wrap64 (x6 - 1)) x1000 bt1115.2.1 bt1115.2.2) else (none)) else (none)) else (none))) else ((spec_l10Key.f x1000 x1001 x1002).bind fun bt1122 => (if x5.length < 8796093022208 then (spec_l12Asks.l0 k (x5 ++ [bt1122.1]) (wrap64 (x6 - 1)) x1000 bt1122.2.1 bt1122.2.2) else (none)))
end
def spec_l12Asks.f (k : Nat) (s0_0 : List Int) (s0_1 : Int) (s0_2 : Int) (a1 : Int) : Option (List ByteArray × Int × Int) := (spec_l01Below.f s0_0 s0_1 s0_2 (wrap64 (a1 + 1))).bind fun bt1109 => (spec_l12Asks.l0 k (([] : List ByteArray)) bt1109.1 s0_0 bt1109.2.1 bt1109.2.2)
theorem spec_l12Asks.calls (k : Nat) (g : Nat) (A0_0 : Option Addr) (c0_0 : Nat) (s0_0 : List Int) (s0_1 : Int) (s0_2 : Int) (a1 : Int) (r1 : List ByteArray) (r2 : Int) (r3 : Int) (w0 w : World) (F : List SP) (hrs0_0 : Kd.C (Kd.int .u8) w0 A0_0 s0_0.length s0_0) (hcs0_0 : s0_0.length ≤ c0_0) (hM : Mem w0 F w [box 110 g [.slice A0_0 s0_0.length c0_0, .int .i64 s0_1, .int .i64 s0_2]]) (h : spec_l12Asks.f k s0_0 s0_1 s0_2 a1 = some (r1, r2, r3)) :
  Calls Try.prog 71 #[.pointer (some ⟨g, 0, none⟩), .int .i64 a1] w fun e w' => ∃ v0_ : Value, e = .returned (v0_) ∧ Mem w0 F w' [rowR Kd.string 9 v0_ r1, box 110 g [.slice A0_0 s0_0.length c0_0, .int .i64 r2, .int .i64 r3]] := by
 have HRs0_0 := Aside0.mk hrs0_0
 have HCs0_0 := Aside0.mk hcs0_0
 clear hrs0_0 hcs0_0
 have HM := hM
 clear hM
 have H := h
 clear h
 unfold spec_l12Asks.f at H
 go_enter Try.func71, Try.ntmps71
 replace H := BN H; obtain ⟨⟨t1109, t1110, t1111⟩, A4, H⟩ := H
 have H' := Aside0.mk H
 clear H
 go_wp2_with (first | ((with_reducible refine gN 8 rfl ?_); refine pL 8 Kd.string 9 ([] : List ByteArray) [] (Reps.none _ _) HM rfl ?_; clear HM; intro v1107 w3 HM) | ((with_reducible refine gC 73 rfl ?_); refine pC (some 12) rfl #[.pointer (some ⟨g, 0, none⟩), .int .i64 (wrap64 (a1 + 1))] rfl Try.func73 (spec_l01Below.calls g A0_0 c0_0 s0_0 s0_1 s0_2 (wrap64 (a1 + 1)) t1109 t1110 t1111 _ _ _ HRs0_0.out HCs0_0.out (HM.focus [1] [0]) A4.out) ?_; rintro e w5 ⟨rfl, hR⟩; refine ⟨_, rfl, ?_⟩; replace HM := nzM hR.unfocus; clear hR))
 go_loopg [5, 6] k (fun kq v5 v6 w' => ∃ (x5_1 : List ByteArray) (x6_1 : Int) (x1001_1 : Int) (x1002_1 : Int), v6 = .int .i64 x6_1 ∧ Aside0 (spec_l12Asks.l0 kq x5_1 x6_1 s0_0 x1001_1 x1002_1 = some (r1, r2, r3)) ∧ Aside0 (kq ≤ k) ∧ Mem w0 F w' [rowR Kd.string 9 v5 x5_1, box 110 g [.slice A0_0 s0_0.length c0_0, .int .i64 x1001_1, .int .i64 x1002_1]])
 case atStart => exact ⟨((([] : List ByteArray))), (t1109), (t1110), (t1111), RS, H', ⟨Nat.le_refl _⟩, (MD HM).pick [0, 1]⟩
 case round =>
  clear H' HM
  obtain ⟨x5_1, x6_1, x1001_1, x1002_1, rfl, HA, HK1, HM⟩ := hrel
  cases gk with
  | zero => exact absurd HA.out (by simp [spec_l12Asks.l0])
  | succ k1 =>
   have H := HA.out
   clear HA
   simp only [spec_l12Asks.l0] at H
   go_upto_if 14 with (fail)
   replace H := IT H; rcases H with ⟨c6, H⟩ | ⟨c6, H⟩
   ·have c6b0 : decide (0 < x6_1) = true := decide_eq_true c6
    clear c6
    first|rw [c6b0]|(simp only [i64_w, i32_w]; rw [c6b0])|skip
    replace H := BN H; obtain ⟨⟨t1112, t1113, t1114⟩, A7, H⟩ := H
    have HC9 := Aside0.mk H
    clear H
    go_upto_region 6 with (first | ((with_reducible refine gC 73 rfl ?_); refine pC (some 18) rfl #[.pointer (some ⟨g, 0, none⟩), .int .i64 3] rfl Try.func73 (spec_l01Below.calls g A0_0 c0_0 s0_0 x1001_1 x1002_1 3 t1112 t1113 t1114 _ _ _ HRs0_0.out HCs0_0.out (HM.focus [0] [1]) A7.out) ?_; rintro e w8 ⟨rfl, hR⟩; refine ⟨_, rfl, ?_⟩; replace HM := nzM hR.unfocus; clear hR))
    go_cut [25] (fun v25 wc => ∃ (kq : Nat) (x25_8 : Bool), v25 = .bool x25_8 ∧ Aside0 (spec_l12Asks.j1 kq x5_1 x6_1 x25_8 s0_0 t1113 t1114 = some (r1, r2, r3)) ∧ Aside0 (kq ≤ k1) ∧ Mem w0 F wc [rowR Kd.string 9 u5 x5_1, box 110 g [.slice A0_0 s0_0.length c0_0, .int .i64 t1113, .int .i64 t1114]])
    case first =>
     have H := HC9.out
     clear HC9
     replace H := IT H; rcases H with ⟨c10, H⟩ | ⟨c10, H⟩
     ·have c10b0 : (t1112 == 0) = true := beq_iff_eq.mpr c10
      have c10b1 : (t1112 != 0) = false := bne_eq_false_iff_eq.mpr c10
      clear c10
      have H' := Aside0.mk H
      clear H
      obtain ⟨Xo11, ko11, rfl⟩ := HM.rdR 0 rfl
      go_wp2
      go_meet
      case rel => exact ⟨_, (decide ((x5_1.length : Int) > 0)), RS, H', ⟨by have := HK1.out; first | omega | exact Nat.le_refl _⟩, (MD HM).pick [0, 1]⟩
     ·have c10b0 : (t1112 == 0) = false := beq_eq_false_iff_ne.mpr c10
      have c10b1 : (t1112 != 0) = true := bne_iff_ne.mpr c10
      have H' := Aside0.mk H
      clear H
      go_wp2
      go_meet
      case rel => exact ⟨_, (false), RS, H', ⟨by have := HK1.out; first | omega | exact Nat.le_refl _⟩, (MD HM).pick [0, 1]⟩
    case rest =>
     clear HC9 HM
     obtain ⟨kq, x25_8, rfl, HA, HJ8, HM⟩ := hcut
     cases kq with
     | zero => exact absurd HA.out (by simp [spec_l12Asks.j1])
     | succ kj8 =>
      have H := HA.out
      clear HA
      simp only [spec_l12Asks.j1] at H
      go_upto_if 25 with (fail)
      replace H := IB H
      rcases H with ⟨c12, H⟩ | ⟨c12, H⟩
      ·subst c12
       replace H := BN H; obtain ⟨⟨t1115, t1116, t1117⟩, A14, H⟩ := H
       replace H := GD H; obtain ⟨c16, H⟩ := H
       have c16b0 : decide (0 ≤ t1115) = true := decide_eq_true c16
       clear c16
       replace H := GD H; obtain ⟨c17, H⟩ := H
       have c17b0 : decide (t1115 < (x5_1.length : Int)) = true := decide_eq_true c17
       clear c17
       replace H := GD H; obtain ⟨c18, H⟩ := H
       have LMc18 := Aside0.mk c18
       clear c18
       have H' := Aside0.mk H
       clear H
       obtain ⟨Xo13, ko13, rfl⟩ := HM.rdR 0 rfl
       go_wp2_with (first | ((with_reducible refine gC 73 rfl ?_); refine pC (some 31) rfl #[.pointer (some ⟨g, 0, none⟩), .int .i64 (x5_1.length : Int)] rfl Try.func73 (spec_l01Below.calls g A0_0 c0_0 s0_0 t1113 t1114 (x5_1.length : Int) t1115 t1116 t1117 _ _ _ HRs0_0.out HCs0_0.out (HM.focus [0] [1]) A14.out) ?_; rintro e w15 ⟨rfl, hR⟩; refine ⟨_, rfl, ?_⟩; replace HM := nzM hR.unfocus; clear hR; have p1118 : 0 ≤ (t1115 : Int) := of_decide_eq_true AS; have q1118 : (t1115 : Int) < (x5_1.length : Int) := of_decide_eq_true AS; obtain ⟨ad1118, e1118, hx1118_0⟩ := Kd.at_string (HM.CR 0 rfl).2.2 t1115 p1118 q1118; cases e1118; replace p1118 := eq_true p1118; replace q1118 := eq_true q1118) | ((with_reducible refine gN 34 rfl ?_); refine pL 34 Kd.string 9 [rdOf ByteArray.empty x5_1 t1115] [.string (rdOf ByteArray.empty x5_1 t1115)] (Reps.one (show Kd.M Kd.string _ _ _ (rdOf ByteArray.empty x5_1 t1115) [.string (rdOf ByteArray.empty x5_1 t1115)] from rfl) (Reps.none _ _)) HM rfl ?_; clear HM; intro v20 w19 HM; obtain ⟨Xv20, kv20, rfl⟩ := HM.rdR 2 rfl) | ((with_reducible refine gate_builtin (b := .append) (xs := #[.tmp 26, .tmp 34]) rfl ?_); refine pA 0 (.tmp 26) (.tmp 34) 47 9 Kd.string (.slice (some ad1118) x5_1.length ko13) x5_1 [rdOf ByteArray.empty x5_1 t1115] Xv20 ([rdOf ByteArray.empty x5_1 t1115].length) kv20 HM rfl Try.underlying47 info9 rfl (HM.CR 2 rfl).2.2 (by have h_ := LMc18.out; simp only [List.length_singleton]; omega) ?_; clear HM; intro v1120 w21 HM))
       go_roundg kj8
       case measure => have := HK1.out; have := HJ8.out; omega
       case rel => exact ⟨((x5_1 ++ [rdOf ByteArray.empty x5_1 t1115])), (wrap64 (x6_1 - 1)), (t1116), (t1117), RS, H', ⟨by have := HK1.out; have := HJ8.out; omega⟩, (MD HM).pick [0, 1]⟩
      ·subst c12
       replace H := BN H; obtain ⟨⟨t1122, t1123, t1124⟩, A22, H⟩ := H
       replace H := GD H; obtain ⟨c24, H⟩ := H
       have LMc24 := Aside0.mk c24
       clear c24
       have H' := Aside0.mk H
       clear H
       go_wp2_with (first | ((with_reducible refine gC 128 rfl ?_); refine pC (some 38) rfl #[.pointer (some ⟨g, 0, none⟩)] rfl Try.func128 (spec_l10Key.calls g A0_0 c0_0 s0_0 t1113 t1114 t1122 t1123 t1124 _ _ _ HRs0_0.out HCs0_0.out (HM.focus [0] [1]) A22.out) ?_; rintro e w23 ⟨rfl, hR⟩; refine ⟨_, rfl, ?_⟩; replace HM := nzM hR.unfocus; clear hR) | ((with_reducible refine gN 39 rfl ?_); refine pL 39 Kd.string 9 [t1122] [.string t1122] (Reps.one (show Kd.M Kd.string _ _ _ t1122 [.string t1122] from rfl) (Reps.none _ _)) HM rfl ?_; clear HM; intro v26 w25 HM; obtain ⟨Xv26, kv26, rfl⟩ := HM.rdR 2 rfl) | ((with_reducible refine gate_builtin (b := .append) (xs := #[.tmp 36, .tmp 39]) rfl ?_); refine pA 0 (.tmp 36) (.tmp 39) 47 9 Kd.string u5 x5_1 [t1122] Xv26 ([t1122].length) kv26 HM rfl Try.underlying47 info9 rfl (HM.CR 2 rfl).2.2 (by have h_ := LMc24.out; simp only [List.length_singleton]; omega) ?_; clear HM; intro v1126 w27 HM))
       go_roundg kj8
       case measure => have := HK1.out; have := HJ8.out; omega
       case rel => exact ⟨((x5_1 ++ [t1122])), (wrap64 (x6_1 - 1)), (t1123), (t1124), RS, H', ⟨by have := HK1.out; have := HJ8.out; omega⟩, (MD HM).pick [0, 1]⟩
   ·have c6b0 : decide (0 < x6_1) = false := decide_eq_false c6
    clear c6
    first|rw [c6b0]|(simp only [i64_w, i32_w]; rw [c6b0])|skip
    simp only [Option.some.injEq, Prod.mk.injEq] at H
    obtain ⟨rfl, rfl, rfl⟩ := H
    go_wp2
    go_ret
    exact ⟨_, ER, (MD HM).pick [0, 1]⟩
end Go.Proofs.Ythnedklbobbkcaa.G
