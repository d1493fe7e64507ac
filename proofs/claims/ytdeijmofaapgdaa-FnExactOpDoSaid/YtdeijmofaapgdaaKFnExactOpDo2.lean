/- Part 2 of the claim FnExactOpDo, merged by pack.py (this session's program) out of: the print's words, cut to what is needed; texts that gen.py printed (it runs the kit's print in place); texts of this session. -/
import Derived.Test.YtdeijmofaapgdaaKFnExactOpDo1
namespace Go.Proofs.Ytdeijmofaapgdaa.Mm
end Go.Proofs.Ytdeijmofaapgdaa.Mm
namespace Go.Proofs.Ytdeijmofaapgdaa.Sh
end Go.Proofs.Ytdeijmofaapgdaa.Sh
namespace Go.Proofs.Ytdeijmofaapgdaa.G
open Go.RowKit Go.Proofs.YtdeijmofaapgdaaW.PrintWords Go.Proofs.YtdeijmofaapgdaaW.PrintLast Go.Proofs.YtdeijmofaapgdaaW.PrintMore Go.Proofs.Ytdeijmofaapgdaa.Sh
attribute [local go_sem] max2_int min2_int max_two min_two max_three min_three max_four min_four
set_option linter.unusedVariables false
set_option linter.unusedSimpArgs false
open Go.Proofs.Ytdeijmofaapgdaa.Mm
mutual
def spec_l10Touch.j0 : Nat → Bool → ByteArray → Int → Int → Int → Int → List (S95) → List (S95) → List Int → ByteArray → ByteArray → Int → Option (Int × Int × (List (S95)) × (List (S95)) × List Int × ByteArray × Bool)
 | 0, _, _, _, _, _, _, _, _, _, _, _, _ => none
 | k + 1, x2, x3, x11, x12, x162000, x162001, x162002, x162003, x162004, x166000, x166001, x166002 => if x12 ≥ 0 then (if 0 ≤ x12 then (if x12 < (x162003.length : Int) then (spec_l10Touch.j1 k x2 x3 x11 x12 x162000 x162001 x162002 x162003 x162004 ((rd_T95 x162003 x12).f0) ((rd_T95 x162003 x12).f1) ((rd_T95 x162003 x12).f2)) else (none)) else (none)) else (spec_l10Touch.j1 k x2 x3 x11 x12 x162000 x162001 x162002 x162003 x162004 x166000 x166001 x166002)
def spec_l10Touch.j1 : Nat → Bool → ByteArray → Int → Int → Int → Int → List (S95) → List (S95) → List Int → ByteArray → ByteArray → Int → Option (Int × Int × (List (S95)) × (List (S95)) × List Int × ByteArray × Bool)
 | 0, _, _, _, _, _, _, _, _, _, _, _, _ => none
 | k + 1, x2, x3, x11, x12, x162000, x162001, x162002, x162003, x162004, x166000, x166001, x166002 => if x11 < 0 then (spec_l10Touch.j2 k x2 x3 x11 x12 (decide (x12 < 0)) x162000 x162001 x162002 x162003 x162004 x166000 x166001 x166002) else (spec_l10Touch.j2 k x2 x3 x11 x12 false x162000 x162001 x162002 x162003 x162004 x166000 x166001 x166002)
def spec_l10Touch.j2 : Nat → Bool → ByteArray → Int → Int → Bool → Int → Int → List (S95) → List (S95) → List Int → ByteArray → ByteArray → Int → Option (Int × Int × (List (S95)) × (List (S95)) × List Int × ByteArray × Bool)
 | 0, _, _, _, _, _, _, _, _, _, _, _, _, _ => none
 | k + 1, x2, x3, x11, x12, x42, x162000, x162001, x162002, x162003, x162004, x166000, x166001, x166002 => if x42 = true then (some (x162000, x162001, x162002, x162003, x162004, (⟨#[]⟩ : ByteArray), false)) else ((spec_l10More.f x166002).bind fun t168 => (if x2 = true then (if x11 ≥ 0 then (if 0 ≤ x11 then (if x11 < (x162002.length : Int) then (some (x162000, x162001, (x162002.set (x11 : Int).toNat (⟨x166000, x3, t168⟩ : S95)), x162003, x162004, x3, true)) else (none)) else (none)) else (if 0 ≤ x12 then (if x12 < (x162003.length : Int) then (some (x162000, x162001, x162002, (x162003.set (x12 : Int).toNat (⟨x166000, x3, t168⟩ : S95)), x162004, x3, true)) else (none)) else (none))) else (if x11 ≥ 0 then (if 0 ≤ x11 then (if x11 < (x162002.length : Int) then (some (x162000, x162001, (x162002.set (x11 : Int).toNat (⟨x166000, x166001, t168⟩ : S95)), x162003, x162004, x166001, true)) else (none)) else (none)) else (if 0 ≤ x12 then (if x12 < (x162003.length : Int) then (some (x162000, x162001, x162002, (x162003.set (x12 : Int).toNat (⟨x166000, x166001, t168⟩ : S95)), x162004, x166001, true)) else (none)) else (none)))))
end
def spec_l10Touch.f (k : Nat) (a0_0 : Int) (a0_1 : Int) (l0_2 : List (S95)) (l0_3 : List (S95)) (l0_4 : List Int) (a1 : ByteArray) (a2 : Bool) (a3 : ByteArray) : Option (Int × Int × (List (S95)) × (List (S95)) × List Int × ByteArray × Bool) := (spec_l10At.f k l0_2 a1).bind fun t163 => ((spec_l10At.f k l0_3 a1).bind fun t164 => (if t163 ≥ 0 then (if 0 ≤ t163 then (if t163 < (l0_2.length : Int) then (spec_l10Touch.j0 k a2 a3 t163 t164 a0_0 a0_1 l0_2 l0_3 l0_4 ((rd_T95 l0_2 t163).f0) ((rd_T95 l0_2 t163).f1) ((rd_T95 l0_2 t163).f2)) else (none)) else (none)) else (spec_l10Touch.j0 k a2 a3 t163 t164 a0_0 a0_1 l0_2 l0_3 l0_4 (⟨#[]⟩ : ByteArray) (⟨#[]⟩ : ByteArray) 0)))
theorem spec_l10Touch.mono_l : ∀ k, (∀ y0 y1 y2 y3 y4 y5 y6 y7 y8 y9 y10 y11, LeO (spec_l10Touch.j0 k y0 y1 y2 y3 y4 y5 y6 y7 y8 y9 y10 y11) (spec_l10Touch.j0 (k + 1) y0 y1 y2 y3 y4 y5 y6 y7 y8 y9 y10 y11)) ∧ (∀ y0 y1 y2 y3 y4 y5 y6 y7 y8 y9 y10 y11, LeO (spec_l10Touch.j1 k y0 y1 y2 y3 y4 y5 y6 y7 y8 y9 y10 y11) (spec_l10Touch.j1 (k + 1) y0 y1 y2 y3 y4 y5 y6 y7 y8 y9 y10 y11)) ∧ (∀ y0 y1 y2 y3 y4 y5 y6 y7 y8 y9 y10 y11 y12, LeO (spec_l10Touch.j2 k y0 y1 y2 y3 y4 y5 y6 y7 y8 y9 y10 y11 y12) (spec_l10Touch.j2 (k + 1) y0 y1 y2 y3 y4 y5 y6 y7 y8 y9 y10 y11 y12))
 | 0 => ⟨fun _ _ _ _ _ _ _ _ _ _ _ _ r h => by simp [spec_l10Touch.j0] at h, fun _ _ _ _ _ _ _ _ _ _ _ _ r h => by simp [spec_l10Touch.j1] at h, fun _ _ _ _ _ _ _ _ _ _ _ _ _ r h => by simp [spec_l10Touch.j2] at h⟩
 | k + 1 => by
  obtain ⟨ih0, ih1, ih2⟩ := spec_l10Touch.mono_l k
  refine ⟨?_, ?_, ?_⟩
  ·intro y0 y1 y2 y3 y4 y5 y6 y7 y8 y9 y10 y11
   unfold spec_l10Touch.j0
   repeat' first | (with_reducible first | exact ih0 _ _ _ _ _ _ _ _ _ _ _ _ | exact ih1 _ _ _ _ _ _ _ _ _ _ _ _ | exact ih2 _ _ _ _ _ _ _ _ _ _ _ _ _ | exact spec_l10At.mono _ _ _ | exact LeO.refl _ | exact LeO.none _ | refine LeO.ite ?_ ?_ | refine LeO.bind ?_ (fun _ => ?_)) | exact ih0 _ _ _ _ _ _ _ _ _ _ _ _ | exact ih1 _ _ _ _ _ _ _ _ _ _ _ _ | exact ih2 _ _ _ _ _ _ _ _ _ _ _ _ _ | exact spec_l10At.mono _ _ _ | exact LeO.none _ | refine LeO.ite ?_ ?_ | refine LeO.bind ?_ (fun _ => ?_)
  ·intro y0 y1 y2 y3 y4 y5 y6 y7 y8 y9 y10 y11
   unfold spec_l10Touch.j1
   repeat' first | (with_reducible first | exact ih0 _ _ _ _ _ _ _ _ _ _ _ _ | exact ih1 _ _ _ _ _ _ _ _ _ _ _ _ | exact ih2 _ _ _ _ _ _ _ _ _ _ _ _ _ | exact spec_l10At.mono _ _ _ | exact LeO.refl _ | exact LeO.none _ | refine LeO.ite ?_ ?_ | refine LeO.bind ?_ (fun _ => ?_)) | exact ih0 _ _ _ _ _ _ _ _ _ _ _ _ | exact ih1 _ _ _ _ _ _ _ _ _ _ _ _ | exact ih2 _ _ _ _ _ _ _ _ _ _ _ _ _ | exact spec_l10At.mono _ _ _ | exact LeO.none _ | refine LeO.ite ?_ ?_ | refine LeO.bind ?_ (fun _ => ?_)
  ·intro y0 y1 y2 y3 y4 y5 y6 y7 y8 y9 y10 y11 y12
   unfold spec_l10Touch.j2
   repeat' first | (with_reducible first | exact ih0 _ _ _ _ _ _ _ _ _ _ _ _ | exact ih1 _ _ _ _ _ _ _ _ _ _ _ _ | exact ih2 _ _ _ _ _ _ _ _ _ _ _ _ _ | exact spec_l10At.mono _ _ _ | exact LeO.refl _ | exact LeO.none _ | refine LeO.ite ?_ ?_ | refine LeO.bind ?_ (fun _ => ?_)) | exact ih0 _ _ _ _ _ _ _ _ _ _ _ _ | exact ih1 _ _ _ _ _ _ _ _ _ _ _ _ | exact ih2 _ _ _ _ _ _ _ _ _ _ _ _ _ | exact spec_l10At.mono _ _ _ | exact LeO.none _ | refine LeO.ite ?_ ?_ | refine LeO.bind ?_ (fun _ => ?_)
theorem spec_l10Touch.mono : ∀ a0 a1 a2 a3 a4 a5 a6 a7 k, LeO (spec_l10Touch.f k a0 a1 a2 a3 a4 a5 a6 a7) (spec_l10Touch.f (k + 1) a0 a1 a2 a3 a4 a5 a6 a7) := by
 intro a0 a1 a2 a3 a4 a5 a6 a7 k
 obtain ⟨ih0, ih1, ih2⟩ := spec_l10Touch.mono_l k
 unfold spec_l10Touch.f
 repeat' first | (with_reducible first | exact ih0 _ _ _ _ _ _ _ _ _ _ _ _ | exact ih1 _ _ _ _ _ _ _ _ _ _ _ _ | exact ih2 _ _ _ _ _ _ _ _ _ _ _ _ _ | exact spec_l10At.mono _ _ _ | exact LeO.refl _ | exact LeO.none _ | refine LeO.ite ?_ ?_ | refine LeO.bind ?_ (fun _ => ?_)) | exact ih0 _ _ _ _ _ _ _ _ _ _ _ _ | exact ih1 _ _ _ _ _ _ _ _ _ _ _ _ | exact ih2 _ _ _ _ _ _ _ _ _ _ _ _ _ | exact spec_l10At.mono _ _ _ | exact LeO.none _ | refine LeO.ite ?_ ?_ | refine LeO.bind ?_ (fun _ => ?_)
def spec_l10Touch.T16 : Bool × List (List Nat × List Nat) := (true, [([], []), ([], []), ([1], [1]), ([0, 0], [0]), ([2, 3, 0, 1, 2, 3], [2]), ([4, 0, 1, 2, 3, 4], [])])
def spec_l10Touch.B16 : List Nat := [0, 0, 2, 1, 15, 31]
theorem spec_l10Touch.tab16 : rtab .any (opsOf Try.f69 16) = spec_l10Touch.T16 := by kernel_rfl
theorem spec_l10Touch.bits16 : waitsOk spec_l10Touch.T16.2 spec_l10Touch.B16 = true := by kernel_rfl
set_option maxHeartbeats 8000000 in
set_option maxRecDepth 100000 in
theorem spec_l10Touch.calls (k : Nat) (a0_0 : Int) (a0_1 : Int) (u9000_ : Value) (l0_2 : List (S95)) (u9001_ : Value) (l0_3 : List (S95)) (u9002_ : Value) (l0_4 : List Int) (a1 : ByteArray) (a2 : Bool) (a3 : ByteArray) (r1 : Int) (r2 : Int) (r3 : List (S95)) (r4 : List (S95)) (r5 : List Int) (r6 : ByteArray) (r7 : Bool) (w0 w : World) (F : List SP)  (hM : Mem w0 F w [rowR k95 95 u9000_ l0_2, rowR k95 95 u9001_ l0_3, rowR (Kd.int .i64) 3 u9002_ l0_4]) (h : spec_l10Touch.f k a0_0 a0_1 l0_2 l0_3 l0_4 a1 a2 a3 = some (r1, r2, r3, r4, r5, r6, r7)) :
  Calls Try.prog 69 #[.agg #[.int .i64 a0_0, .int .i64 a0_1, u9000_, u9001_, u9002_], .string a1, .bool a2, .string a3] w fun e w' => ∃ v2_ v3_ v4_ : Value, e = .returned (.tuple #[.agg #[.int .i64 r1, .int .i64 r2, v2_, v3_, v4_], .string r6, .bool r7]) ∧ Mem w0 F w' [rowR k95 95 v2_ r3, rowR k95 95 v3_ r4, rowR (Kd.int .i64) 3 v4_ r5] := by
 have hu32 := Try.underlying32
 have hu95 := Try.underlying95
 have HM := hM
 clear hM
 have H := h
 clear h
 unfold spec_l10Touch.f at H
 go_enter Try.func69, Try.ntmps69
 replace H := BN H; obtain ⟨t163, A11, H⟩ := H
 replace H := BN H; obtain ⟨t164, A14, H⟩ := H
 have HC18 := Aside0.mk H
 clear H
 obtain ⟨Xo5, ko5, eo5⟩ := HM.rdR 0 rfl
 subst eo5
 obtain ⟨Xo6, ko6, eo6⟩ := HM.rdR 1 rfl
 subst eo6
 obtain ⟨Xo7, ko7, eo7⟩ := HM.rdR 2 rfl
 subst eo7
 go_upto_if 24 with (first | ((with_reducible refine gate_dst (N := 4) rfl ?_); refine pB 4 32 [.int .i64 a0_0, .int .i64 a0_1, .slice Xo5 l0_2.length ko5, .slice Xo6 l0_3.length ko6, .slice Xo7 l0_4.length ko7] HM rfl ?_; clear HM; intro gb161 w8 HM) | ((with_reducible refine gate_dst (N := 8) rfl ?_); refine pB 8 32 [.int .i64 0, .int .i64 0, .slice none 0 0, .slice none 0 0, .slice none 0 0] HM rfl ?_; clear HM; intro gb162 w9 HM; obtain ⟨hcz10_0, hcz10_1, hcz10_2, hcz10_3, hcz10_4, hfz10_0, hfz10_1, hfz10_2, hfz10_3, hfz10_4⟩ := bk5 (HM.bx 3 rfl)) | ((with_reducible refine gate_callee (f := 66) rfl ?_); refine pC (some 17) rfl #[.slice Xo5 l0_2.length ko5, .string a1] rfl Try.func66 (spec_l10At.calls k _ _ l0_2 a1 t163 _ (HM.CR 0 rfl).2.2 (HM.CR 0 rfl).2.1 A11.out) ?_; rintro e w12 ⟨rfl, hR⟩; refine ⟨_, rfl, ?_⟩; replace HM := HM.call hR; clear hR; obtain ⟨hcz13_0, hcz13_1, hcz13_2, hcz13_3, hcz13_4, hfz13_0, hfz13_1, hfz13_2, hfz13_3, hfz13_4⟩ := bk5 (HM.bx 3 rfl)) | ((with_reducible refine gate_callee (f := 66) rfl ?_); refine pC (some 21) rfl #[.slice Xo6 l0_3.length ko6, .string a1] rfl Try.func66 (spec_l10At.calls k _ _ l0_3 a1 t164 _ (HM.CR 1 rfl).2.2 (HM.CR 1 rfl).2.1 A14.out) ?_; rintro e w15 ⟨rfl, hR⟩; refine ⟨_, rfl, ?_⟩; replace HM := HM.call hR; clear hR) | ((with_reducible refine gate_dst (N := 13) rfl ?_); refine pB 13 95 [.string (⟨#[]⟩ : ByteArray), .string (⟨#[]⟩ : ByteArray), .int .i64 0] HM rfl ?_; clear HM; intro gb165 w16 HM) | ((with_reducible refine gate_st (p := 13) rfl ?_); refine pS 5 13 0 [.string (⟨#[]⟩ : ByteArray), .string (⟨#[]⟩ : ByteArray), .int .i64 0] HM rfl rfl ?_; clear HM; intro w17 HM))
 replace HM := nzM HM
 go_cut [] (fun wc => ∃ (kq : Nat) (x166000_17 : ByteArray) (x166001_17 : ByteArray) (x166002_17 : Int), Aside0 (spec_l10Touch.j0 kq a2 a3 t163 t164 a0_0 a0_1 l0_2 l0_3 l0_4 x166000_17 x166001_17 x166002_17 = some (r1, r2, r3, r4, r5, r6, r7)) ∧ Aside0 (kq ≤ k) ∧ Mem w0 F wc [rowR k95 95 (.slice Xo5 l0_2.length ko5) l0_2, rowR k95 95 (.slice Xo6 l0_3.length ko6) l0_3, rowR (Kd.int .i64) 3 (.slice Xo7 l0_4.length ko7) l0_4, box 32 gb161 [.int .i64 a0_0, .int .i64 a0_1, (.slice Xo5 l0_2.length ko5), (.slice Xo6 l0_3.length ko6), (.slice Xo7 l0_4.length ko7)], box 32 gb162 [.int .i64 0, .int .i64 0, .slice none 0 0, .slice none 0 0, .slice none 0 0], box 95 gb165 [.string x166000_17, .string x166001_17, .int .i64 x166002_17]])
 case first =>
  have H := HC18.out
  clear HC18
  go_upto_if 24 with (fail)
  replace H := IT H; rcases H with ⟨c19, H⟩ | ⟨c19, H⟩
  ·have c19b0 : decide (0 ≤ t163) = true := decide_eq_true c19
   clear c19
   (first | rw [c19b0] | (simp only [i64_w, i32_w]; rw [c19b0]) | skip)
   replace H := GD H; obtain ⟨c21, H⟩ := H
   have c21b0 : decide (0 ≤ t163) = true := decide_eq_true c21
   clear c21
   replace H := GD H; obtain ⟨c22, H⟩ := H
   have c22b0 : decide (t163 < (l0_2.length : Int)) = true := decide_eq_true c22
   clear c22
   have H' := Aside0.mk H
   clear H
   obtain ⟨hcz20_0, hcz20_1, hcz20_2, hcz20_3, hcz20_4, hfz20_0, hfz20_1, hfz20_2, hfz20_3, hfz20_4⟩ := bk5 (HM.bx 3 rfl)
   have p166 : 0 ≤ (t163 : Int) := of_decide_eq_true AS
   have q166 : (t163 : Int) < (l0_2.length : Int) := of_decide_eq_true AS
   obtain ⟨ad166, e166, hx166_0, hx166_1, hx166_2⟩ := at_T95 (HM.CR 0 rfl).2.2 t163 p166 q166
   cases e166
   replace p166 := eq_true p166
   replace q166 := eq_true q166
   go_wp2_with (first | ((with_reducible refine gate_st (p := 13) rfl ?_); refine pS 5 13 0 [.string ((rd_T95 l0_2 t163).f0), .string ((rd_T95 l0_2 t163).f1), .int .i64 ((rd_T95 l0_2 t163).f2)] HM rfl rfl ?_; clear HM; intro w23 HM))
   go_meet
   case rel => exact ⟨_, ((rd_T95 l0_2 t163).f0), ((rd_T95 l0_2 t163).f1), ((rd_T95 l0_2 t163).f2), H', ⟨by first | omega | exact Nat.le_refl _⟩, (MD HM).pick [0, 1, 2, 3, 4, 5]⟩
  ·have c19b0 : decide (0 ≤ t163) = false := decide_eq_false c19
   clear c19
   (first | rw [c19b0] | (simp only [i64_w, i32_w]; rw [c19b0]) | skip)
   have H' := Aside0.mk H
   clear H
   go_wp2
   go_meet
   case rel => exact ⟨_, ((⟨#[]⟩ : ByteArray)), ((⟨#[]⟩ : ByteArray)), (0), H', ⟨by first | omega | exact Nat.le_refl _⟩, (MD HM).pick [0, 1, 2, 3, 4, 5]⟩
 case rest =>
  clear HC18 HM
  obtain ⟨kq, x166000_17, x166001_17, x166002_17, HA, HJ17, HM⟩ := hcut
  cases kq with
  | zero => exact absurd HA.out (by simp [spec_l10Touch.j0])
  | succ kj17 =>
   have H := HA.out
   clear HA
   simp only [spec_l10Touch.j0] at H
   have HC24 := Aside0.mk H
   clear H
   go_upto_if 31 with (fail)
   go_cut [] (fun wc => ∃ (kq : Nat) (x166000_23 : ByteArray) (x166001_23 : ByteArray) (x166002_23 : Int), Aside0 (spec_l10Touch.j1 kq a2 a3 t163 t164 a0_0 a0_1 l0_2 l0_3 l0_4 x166000_23 x166001_23 x166002_23 = some (r1, r2, r3, r4, r5, r6, r7)) ∧ Aside0 (kq ≤ kj17) ∧ Mem w0 F wc [rowR k95 95 (.slice Xo5 l0_2.length ko5) l0_2, rowR k95 95 (.slice Xo6 l0_3.length ko6) l0_3, rowR (Kd.int .i64) 3 (.slice Xo7 l0_4.length ko7) l0_4, box 32 gb161 [.int .i64 a0_0, .int .i64 a0_1, (.slice Xo5 l0_2.length ko5), (.slice Xo6 l0_3.length ko6), (.slice Xo7 l0_4.length ko7)], box 32 gb162 [.int .i64 0, .int .i64 0, .slice none 0 0, .slice none 0 0, .slice none 0 0], box 95 gb165 [.string x166000_23, .string x166001_23, .int .i64 x166002_23]])
   case first =>
    have H := HC24.out
    clear HC24
    go_upto_if 31 with (fail)
    replace H := IT H; rcases H with ⟨c25, H⟩ | ⟨c25, H⟩
    ·have c25b0 : decide (0 ≤ t164) = true := decide_eq_true c25
     clear c25
     (first | rw [c25b0] | (simp only [i64_w, i32_w]; rw [c25b0]) | skip)
     replace H := GD H; obtain ⟨c27, H⟩ := H
     have c27b0 : decide (0 ≤ t164) = true := decide_eq_true c27
     clear c27
     replace H := GD H; obtain ⟨c28, H⟩ := H
     have c28b0 : decide (t164 < (l0_3.length : Int)) = true := decide_eq_true c28
     clear c28
     have H' := Aside0.mk H
     clear H
     obtain ⟨hcz26_0, hcz26_1, hcz26_2, hcz26_3, hcz26_4, hfz26_0, hfz26_1, hfz26_2, hfz26_3, hfz26_4⟩ := bk5 (HM.bx 3 rfl)
     have p167 : 0 ≤ (t164 : Int) := of_decide_eq_true AS
     have q167 : (t164 : Int) < (l0_3.length : Int) := of_decide_eq_true AS
     obtain ⟨ad167, e167, hx167_0, hx167_1, hx167_2⟩ := at_T95 (HM.CR 1 rfl).2.2 t164 p167 q167
     cases e167
     replace p167 := eq_true p167
     replace q167 := eq_true q167
     go_wp2_with (first | ((with_reducible refine gate_st (p := 13) rfl ?_); refine pS 5 13 0 [.string ((rd_T95 l0_3 t164).f0), .string ((rd_T95 l0_3 t164).f1), .int .i64 ((rd_T95 l0_3 t164).f2)] HM rfl rfl ?_; clear HM; intro w29 HM))
     go_meet
     case rel => exact ⟨_, ((rd_T95 l0_3 t164).f0), ((rd_T95 l0_3 t164).f1), ((rd_T95 l0_3 t164).f2), H', ⟨by have := HJ17.out; first | omega | exact Nat.le_refl _⟩, (MD HM).pick [0, 1, 2, 3, 4, 5]⟩
    ·have c25b0 : decide (0 ≤ t164) = false := decide_eq_false c25
     clear c25
     (first | rw [c25b0] | (simp only [i64_w, i32_w]; rw [c25b0]) | skip)
     have H' := Aside0.mk H
     clear H
     go_wp2
     go_meet
     case rel => exact ⟨_, (x166000_17), (x166001_17), (x166002_17), H', ⟨by have := HJ17.out; first | omega | exact Nat.le_refl _⟩, (MD HM).pick [0, 1, 2, 3, 4, 5]⟩
   case rest =>
    clear HC24 HM
    obtain ⟨kq, x166000_23, x166001_23, x166002_23, HA, HJ23, HM⟩ := hcut
    cases kq with
    | zero => exact absurd HA.out (by simp [spec_l10Touch.j1])
    | succ kj23 =>
     have H := HA.out
     clear HA
     simp only [spec_l10Touch.j1] at H
     have HC30 := Aside0.mk H
     clear H
     go_upto_region 8 with (fail)
     go_cut [42] (fun v42 wc => ∃ (kq : Nat) (x42_29 : Bool), v42 = .bool x42_29 ∧ Aside0 (spec_l10Touch.j2 kq a2 a3 t163 t164 x42_29 a0_0 a0_1 l0_2 l0_3 l0_4 x166000_23 x166001_23 x166002_23 = some (r1, r2, r3, r4, r5, r6, r7)) ∧ Aside0 (kq ≤ kj23) ∧ Mem w0 F wc [rowR k95 95 (.slice Xo5 l0_2.length ko5) l0_2, rowR k95 95 (.slice Xo6 l0_3.length ko6) l0_3, rowR (Kd.int .i64) 3 (.slice Xo7 l0_4.length ko7) l0_4, box 32 gb161 [.int .i64 a0_0, .int .i64 a0_1, (.slice Xo5 l0_2.length ko5), (.slice Xo6 l0_3.length ko6), (.slice Xo7 l0_4.length ko7)], box 32 gb162 [.int .i64 0, .int .i64 0, .slice none 0 0, .slice none 0 0, .slice none 0 0], box 95 gb165 [.string x166000_23, .string x166001_23, .int .i64 x166002_23]])
     case first =>
      have H := HC30.out
      clear HC30
      replace H := IT H; rcases H with ⟨c31, H⟩ | ⟨c31, H⟩
      ·have c31b0 : decide (t163 < 0) = true := decide_eq_true c31
       clear c31
       have H' := Aside0.mk H
       clear H
       go_wp2
       go_meet
       case rel => exact ⟨_, (decide (t164 < 0)), RS, H', ⟨by have := HJ17.out; have := HJ23.out; first | omega | exact Nat.le_refl _⟩, (MD HM).pick [0, 1, 2, 3, 4, 5]⟩
      ·have c31b0 : decide (t163 < 0) = false := decide_eq_false c31
       clear c31
       have H' := Aside0.mk H
       clear H
       go_wp2
       go_meet
       case rel => exact ⟨_, (false), RS, H', ⟨by have := HJ17.out; have := HJ23.out; first | omega | exact Nat.le_refl _⟩, (MD HM).pick [0, 1, 2, 3, 4, 5]⟩
     case rest =>
      clear HC30 HM
      obtain ⟨kq, x42_29, rfl, HA, HJ29, HM⟩ := hcut
      cases kq with
      | zero => exact absurd HA.out (by simp [spec_l10Touch.j2])
      | succ kj29 =>
       have H := HA.out
       clear HA
       simp only [spec_l10Touch.j2] at H
       go_upto_if 42 with (fail)
       replace H := IB H
       rcases H with ⟨c32, H⟩ | ⟨c32, H⟩
       ·subst c32
        simp only [Option.some.injEq, Prod.mk.injEq] at H
        obtain ⟨rfl, rfl, rfl, rfl, rfl, rfl, rfl⟩ := H
        obtain ⟨hcz33_0, hcz33_1, hcz33_2, hcz33_3, hcz33_4, hfz33_0, hfz33_1, hfz33_2, hfz33_3, hfz33_4⟩ := bk5 (HM.bx 3 rfl)
        go_wp2_with (first | ((with_reducible refine gate_st (p := 8) rfl ?_); refine pS 4 8 0 [.int .i64 a0_0, .int .i64 a0_1, .slice Xo5 l0_2.length ko5, .slice Xo6 l0_3.length ko6, .slice Xo7 l0_4.length ko7] HM rfl rfl ?_; clear HM; intro w34 HM))
        refine bodyPost_ret (results_ctt rfl _ _ gb162 32 #[.int .i64 a0_0, .int .i64 a0_1, .slice Xo5 l0_2.length ko5, .slice Xo6 l0_3.length ko6, .slice Xo7 l0_4.length ko7] (0, 0) _ rfl (HM.bx 4 rfl) Try.underlying32 rfl (by kernel_rfl)) rfl ?_
        exact ⟨_, _, _, ER, (MD HM).pick [0, 1, 2]⟩
       ·subst c32
        replace H := BN H; obtain ⟨t168, A36, H⟩ := H
        obtain ⟨hcz35_0, hcz35_1, hcz35_2, hfz35_0, hfz35_1, hfz35_2⟩ := bk3 (HM.bx 5 rfl)
        go_upto_if 48 with (first | ((with_reducible refine gate_callee (f := 91) rfl ?_); refine pC (some 46) rfl #[.int .i64 x166002_23] rfl Try.func91 (spec_l10More.calls x166002_23 t168 _ A36.out) ?_; rintro e w37 ⟨rfl, hd⟩; refine ⟨_, rfl, ?_⟩; replace HM := HM.drawn hd; clear hd) | ((with_reducible refine gate_st (p := 47) rfl ?_); refine pS 5 47 2 [.int .i64 t168] HM rfl rfl ?_; clear HM; intro w38 HM))
        replace H := IB H
        rcases H with ⟨c39, H⟩ | ⟨c39, H⟩
        ·subst c39
         go_upto_if 52 with (first | ((with_reducible refine gate_st (p := 50) rfl ?_); refine pS 5 50 1 [.string a3] HM rfl rfl ?_; clear HM; intro w40 HM))
         replace H := IT H; rcases H with ⟨c41, H⟩ | ⟨c41, H⟩
         ·have c41b0 : decide (0 ≤ t163) = true := decide_eq_true c41
          clear c41
          (first | rw [c41b0] | (simp only [i64_w, i32_w]; rw [c41b0]) | skip)
          replace H := GD H; obtain ⟨c44, H⟩ := H
          have c44b0 : decide (0 ≤ t163) = true := decide_eq_true c44
          clear c44
          replace H := GD H; obtain ⟨c45, H⟩ := H
          have c45b0 : decide (t163 < (l0_2.length : Int)) = true := decide_eq_true c45
          clear c45
          obtain ⟨hcz42_0, hcz42_1, hcz42_2, hcz42_3, hcz42_4, hfz42_0, hfz42_1, hfz42_2, hfz42_3, hfz42_4⟩ := bk5 (HM.bx 3 rfl)
          obtain ⟨hcz43_0, hcz43_1, hcz43_2, hfz43_0, hfz43_1, hfz43_2⟩ := bk3 (HM.bx 5 rfl)
          have p46 : 0 ≤ (t163 : Int) := of_decide_eq_true AS
          have q46 : (t163 : Int) < ((l0_2.length : Int) : Int) := of_decide_eq_true AS
          obtain ⟨go46, ef46⟩ := HM.form 0 rfl (by have h_ := (HM.CR 0 rfl).1; omega)
          subst ef46
          obtain ⟨hcc46, hfr46⟩ := HM.el 0 rfl z95 (t163 : Int) p46 (by have h_ := (HM.CR 0 rfl).1; omega) [.string ((rd_T95 l0_2 t163).f0), .string ((rd_T95 l0_2 t163).f1), .int .i64 ((rd_T95 l0_2 t163).f2)] (fun _ _ h => k95_openM h)
          have hx46_0 : w40.cell? ⟨go46, (t163 : Int).toNat * 3, none⟩ = some (.string ((rd_T95 l0_2 t163).f0)) := (by have h_ := hcc46 0 _ rfl; first | exact h_ | (simp only [show (k95).sz = 3 from rfl, Nat.mul_one, Nat.add_zero] at h_; exact h_) | simpa using h_)
          have hf46_0 : w40.frozen? ⟨go46, (t163 : Int).toNat * 3, none⟩ = false := (by have h_ := hfr46 0; first | exact h_ | (simp only [show (k95).sz = 3 from rfl, Nat.mul_one, Nat.add_zero] at h_; exact h_) | simpa using h_)
          have hx46_1 : w40.cell? ⟨go46, (t163 : Int).toNat * 3 + 1, none⟩ = some (.string ((rd_T95 l0_2 t163).f1)) := (by have h_ := hcc46 1 _ rfl; first | exact h_ | (simp only [show (k95).sz = 3 from rfl, Nat.mul_one, Nat.add_zero] at h_; exact h_) | simpa using h_)
          have hf46_1 : w40.frozen? ⟨go46, (t163 : Int).toNat * 3 + 1, none⟩ = false := (by have h_ := hfr46 1; first | exact h_ | (simp only [show (k95).sz = 3 from rfl, Nat.mul_one, Nat.add_zero] at h_; exact h_) | simpa using h_)
          have hx46_2 : w40.cell? ⟨go46, (t163 : Int).toNat * 3 + 2, none⟩ = some (.int .i64 ((rd_T95 l0_2 t163).f2)) := (by have h_ := hcc46 2 _ rfl; first | exact h_ | (simp only [show (k95).sz = 3 from rfl, Nat.mul_one, Nat.add_zero] at h_; exact h_) | simpa using h_)
          have hf46_2 : w40.frozen? ⟨go46, (t163 : Int).toNat * 3 + 2, none⟩ = false := (by have h_ := hfr46 2; first | exact h_ | (simp only [show (k95).sz = 3 from rfl, Nat.mul_one, Nat.add_zero] at h_; exact h_) | simpa using h_)
          clear hcc46 hfr46
          replace p46 := eq_true p46
          replace q46 := eq_true q46
          try go_wp2_with (first | ((with_reducible refine gate_st (p := 57) rfl ?_); refine pPR 0 57 (t163 : Int) 0 [.string x166000_23, .string a3, .int .i64 t168] k95 95 l0_2 (⟨x166000_23, a3, t168⟩ : S95) z95 [.string ((rd_T95 l0_2 t163).f0), .string ((rd_T95 l0_2 t163).f1), .int .i64 ((rd_T95 l0_2 t163).f2)] HM rfl rfl (of_decide_eq_true AS) (by have h_ : (t163 : Int) < ((l0_2.length : Int) : Int) := of_decide_eq_true AS; have e_ := (HM.CR 0 rfl).1; omega) (fun _ _ h => k95_openM h) (k95_mkM _ _ _ (⟨x166000_23, a3, t168⟩ : S95)) ?_; clear HM; intro w47 HM))
          refine RGN 6 [0, 1, 2, 3, 4, 5] (fun a0 b a w' => a = putSel a0 b [(0, 63, .agg #[.int .i64 a0_0, .int .i64 a0_1, .slice (some ⟨go46, 0, none⟩) l0_2.length ko5, .slice Xo6 l0_3.length ko6, .slice Xo7 l0_4.length ko7]), (1, 64, .pointer (some ⟨gb165, 1, none⟩)), (2, 65, .string a3), (4, 9, .string a3), (5, 10, .bool true)] ∧ Mem w0 F w' [rowR k95 95 (.slice (some ⟨go46, 0, none⟩) l0_2.length ko5) (l0_2.set (t163 : Int).toNat (⟨x166000_23, a3, t168⟩ : S95)), rowR k95 95 (.slice Xo6 l0_3.length ko6) l0_3, rowR (Kd.int .i64) 3 (.slice Xo7 l0_4.length ko7) l0_4, box 32 gb161 [.int .i64 a0_0, .int .i64 a0_1, .slice (some ⟨go46, 0, none⟩) l0_2.length ko5, .slice Xo6 l0_3.length ko6, .slice Xo7 l0_4.length ko7], sel (b 3) (box 32 gb162 [.int .i64 a0_0, .int .i64 a0_1, .slice (some ⟨go46, 0, none⟩) l0_2.length ko5, .slice Xo6 l0_3.length ko6, .slice Xo7 l0_4.length ko7]) (box 32 gb162 [.int .i64 0, .int .i64 0, .slice none 0 0, .slice none 0 0, .slice none 0 0]), box 95 gb165 [.string x166000_23, .string a3, .int .i64 t168]]) spec_l10Touch.tab16 spec_l10Touch.bits16 ?_ ?_ ?_
          ·exact ⟨PS0' rfl _, (HM.drew).pick [0, 1, 2, 3, 4, 5]⟩
          ·clear HM
           refine steps_cons ?_ ?_
           ·rintro b a w ⟨ha, HM⟩ hb hon hoff
            refine ⟨_, rfl, fun K hK => ?_⟩
            obtain ⟨hcz51_0, hcz51_1, hcz51_2, hcz51_3, hcz51_4, hfz51_0, hfz51_1, hfz51_2, hfz51_3, hfz51_4⟩ := bk5 (HM.bx 3 rfl)
            have e4 := POF ha 4
            replace ha := Aside0.mk ha
            exact VL (.agg #[.int .i64 a0_0, .int .i64 a0_1, .slice (some ⟨go46, 0, none⟩) l0_2.length ko5, .slice Xo6 l0_3.length ko6, .slice Xo7 l0_4.length ko7]) (hK.out _ _ ⟨PUT ha 0 hb, HM⟩)
           refine steps_cons ?_ ?_
           ·rintro b a w ⟨ha, HM⟩ hb hon hoff
            refine ⟨_, rfl, fun K hK => ?_⟩
            have e13 := POF ha 13
            replace ha := Aside0.mk ha
            exact VL (.pointer (some ⟨gb165, 1, none⟩)) (hK.out _ _ ⟨PUT ha 1 hb, HM⟩)
           refine steps_cons ?_ ?_
           ·rintro b a w ⟨ha, HM⟩ hb hon hoff
            refine ⟨_, rfl, fun K hK => ?_⟩
            obtain ⟨hcz52_0, hcz52_1, hcz52_2, hfz52_0, hfz52_1, hfz52_2⟩ := bk3 (HM.bx 5 rfl)
            have e64 := PON ha 1 (hon 1 (by kernel_rfl))
            replace ha := Aside0.mk ha
            exact VL (.string a3) (hK.out _ _ ⟨PUT ha 2 hb, HM⟩)
           refine steps_cons ?_ ?_
           ·rintro b a w ⟨ha, HM⟩ hb hon hoff
            refine ⟨_, rfl, fun K hK => ?_⟩
            replace HM := HM.sF 4 rfl hb
            have e8 := POF ha 8
            have e63 := PON ha 0 (hon 0 (by kernel_rfl))
            replace ha := Aside0.mk ha
            refine ST (eS 4 8 0 [.int .i64 a0_0, .int .i64 a0_1, .slice (some ⟨go46, 0, none⟩) l0_2.length ko5, .slice Xo6 l0_3.length ko6, .slice Xo7 l0_4.length ko7] HM rfl rfl ?_ (hp := (eval_of e8)) (hx := (by rw [eval_of e63]; rfl)))
            clear HM
            intro w53 HM
            exact hK.out _ _ ⟨PUS ha, (HM).pick [0, 1, 2, 3, 4, 5]⟩
           refine steps_cons ?_ ?_
           ·rintro b a w ⟨ha, HM⟩ hb hon hoff
            refine ⟨_, rfl, fun K hK => ?_⟩
            have e65 := PON ha 2 (hon 2 (by kernel_rfl))
            replace ha := Aside0.mk ha
            exact VL (.string a3) (hK.out _ _ ⟨PUT ha 3 hb, HM⟩)
           refine steps_cons ?_ ?_
           ·rintro b a w ⟨ha, HM⟩ hb hon hoff
            refine ⟨_, rfl, fun K hK => ?_⟩
            replace ha := Aside0.mk ha
            exact VL (.bool true) (hK.out _ _ ⟨PUT ha 4 hb, HM⟩)
           exact steps_nil
          rintro _ w54 ⟨rfl, HM⟩
          replace HM := HM.sT 4 rfl rfl
          simp only [putSel, if_true, Act.put, List.setIfInBounds_toArray, List.set_cons_zero, List.set_cons_succ, gt_iff_lt, ge_iff_le]
          simp only [Option.some.injEq, Prod.mk.injEq] at H
          obtain ⟨rfl, rfl, rfl, rfl, rfl, rfl, rfl⟩ := H
          go_wp2
          refine bodyPost_ret (results_ctt rfl _ _ gb162 32 #[.int .i64 a0_0, .int .i64 a0_1, .slice (some ⟨go46, 0, none⟩) l0_2.length ko5, .slice Xo6 l0_3.length ko6, .slice Xo7 l0_4.length ko7] (0, 0) _ rfl (HM.bx 4 rfl) Try.underlying32 rfl (by kernel_rfl)) rfl ?_
          exact ⟨_, _, _, ER, (MD HM).pick [0, 1, 2]⟩
         ·have c41b0 : decide (0 ≤ t163) = false := decide_eq_false c41
          clear c41
          (first | rw [c41b0] | (simp only [i64_w, i32_w]; rw [c41b0]) | skip)
          replace H := GD H; obtain ⟨c57, H⟩ := H
          have c57b0 : decide (0 ≤ t164) = true := decide_eq_true c57
          clear c57
          replace H := GD H; obtain ⟨c58, H⟩ := H
          have c58b0 : decide (t164 < (l0_3.length : Int)) = true := decide_eq_true c58
          clear c58
          obtain ⟨hcz55_0, hcz55_1, hcz55_2, hcz55_3, hcz55_4, hfz55_0, hfz55_1, hfz55_2, hfz55_3, hfz55_4⟩ := bk5 (HM.bx 3 rfl)
          obtain ⟨hcz56_0, hcz56_1, hcz56_2, hfz56_0, hfz56_1, hfz56_2⟩ := bk3 (HM.bx 5 rfl)
          have p59 : 0 ≤ (t164 : Int) := of_decide_eq_true AS
          have q59 : (t164 : Int) < ((l0_3.length : Int) : Int) := of_decide_eq_true AS
          obtain ⟨go59, ef59⟩ := HM.form 1 rfl (by have h_ := (HM.CR 1 rfl).1; omega)
          subst ef59
          obtain ⟨hcc59, hfr59⟩ := HM.el 1 rfl z95 (t164 : Int) p59 (by have h_ := (HM.CR 1 rfl).1; omega) [.string ((rd_T95 l0_3 t164).f0), .string ((rd_T95 l0_3 t164).f1), .int .i64 ((rd_T95 l0_3 t164).f2)] (fun _ _ h => k95_openM h)
          have hx59_0 : w40.cell? ⟨go59, (t164 : Int).toNat * 3, none⟩ = some (.string ((rd_T95 l0_3 t164).f0)) := (by have h_ := hcc59 0 _ rfl; first | exact h_ | (simp only [show (k95).sz = 3 from rfl, Nat.mul_one, Nat.add_zero] at h_; exact h_) | simpa using h_)
          have hf59_0 : w40.frozen? ⟨go59, (t164 : Int).toNat * 3, none⟩ = false := (by have h_ := hfr59 0; first | exact h_ | (simp only [show (k95).sz = 3 from rfl, Nat.mul_one, Nat.add_zero] at h_; exact h_) | simpa using h_)
          have hx59_1 : w40.cell? ⟨go59, (t164 : Int).toNat * 3 + 1, none⟩ = some (.string ((rd_T95 l0_3 t164).f1)) := (by have h_ := hcc59 1 _ rfl; first | exact h_ | (simp only [show (k95).sz = 3 from rfl, Nat.mul_one, Nat.add_zero] at h_; exact h_) | simpa using h_)
          have hf59_1 : w40.frozen? ⟨go59, (t164 : Int).toNat * 3 + 1, none⟩ = false := (by have h_ := hfr59 1; first | exact h_ | (simp only [show (k95).sz = 3 from rfl, Nat.mul_one, Nat.add_zero] at h_; exact h_) | simpa using h_)
          have hx59_2 : w40.cell? ⟨go59, (t164 : Int).toNat * 3 + 2, none⟩ = some (.int .i64 ((rd_T95 l0_3 t164).f2)) := (by have h_ := hcc59 2 _ rfl; first | exact h_ | (simp only [show (k95).sz = 3 from rfl, Nat.mul_one, Nat.add_zero] at h_; exact h_) | simpa using h_)
          have hf59_2 : w40.frozen? ⟨go59, (t164 : Int).toNat * 3 + 2, none⟩ = false := (by have h_ := hfr59 2; first | exact h_ | (simp only [show (k95).sz = 3 from rfl, Nat.mul_one, Nat.add_zero] at h_; exact h_) | simpa using h_)
          clear hcc59 hfr59
          replace p59 := eq_true p59
          replace q59 := eq_true q59
          try go_wp2_with (first | ((with_reducible refine gate_st (p := 62) rfl ?_); refine pPR 1 62 (t164 : Int) 0 [.string x166000_23, .string a3, .int .i64 t168] k95 95 l0_3 (⟨x166000_23, a3, t168⟩ : S95) z95 [.string ((rd_T95 l0_3 t164).f0), .string ((rd_T95 l0_3 t164).f1), .int .i64 ((rd_T95 l0_3 t164).f2)] HM rfl rfl (of_decide_eq_true AS) (by have h_ : (t164 : Int) < ((l0_3.length : Int) : Int) := of_decide_eq_true AS; have e_ := (HM.CR 1 rfl).1; omega) (fun _ _ h => k95_openM h) (k95_mkM _ _ _ (⟨x166000_23, a3, t168⟩ : S95)) ?_; clear HM; intro w60 HM))
          refine RGN 6 [0, 1, 2, 3, 4, 5] (fun a0 b a w' => a = putSel a0 b [(0, 63, .agg #[.int .i64 a0_0, .int .i64 a0_1, .slice Xo5 l0_2.length ko5, .slice (some ⟨go59, 0, none⟩) l0_3.length ko6, .slice Xo7 l0_4.length ko7]), (1, 64, .pointer (some ⟨gb165, 1, none⟩)), (2, 65, .string a3), (4, 9, .string a3), (5, 10, .bool true)] ∧ Mem w0 F w' [rowR k95 95 (.slice Xo5 l0_2.length ko5) l0_2, rowR k95 95 (.slice (some ⟨go59, 0, none⟩) l0_3.length ko6) (l0_3.set (t164 : Int).toNat (⟨x166000_23, a3, t168⟩ : S95)), rowR (Kd.int .i64) 3 (.slice Xo7 l0_4.length ko7) l0_4, box 32 gb161 [.int .i64 a0_0, .int .i64 a0_1, .slice Xo5 l0_2.length ko5, .slice (some ⟨go59, 0, none⟩) l0_3.length ko6, .slice Xo7 l0_4.length ko7], sel (b 3) (box 32 gb162 [.int .i64 a0_0, .int .i64 a0_1, .slice Xo5 l0_2.length ko5, .slice (some ⟨go59, 0, none⟩) l0_3.length ko6, .slice Xo7 l0_4.length ko7]) (box 32 gb162 [.int .i64 0, .int .i64 0, .slice none 0 0, .slice none 0 0, .slice none 0 0]), box 95 gb165 [.string x166000_23, .string a3, .int .i64 t168]]) spec_l10Touch.tab16 spec_l10Touch.bits16 ?_ ?_ ?_
          ·exact ⟨PS0' rfl _, (HM.drew).pick [0, 1, 2, 3, 4, 5]⟩
          ·clear HM
           refine steps_cons ?_ ?_
           ·rintro b a w ⟨ha, HM⟩ hb hon hoff
            refine ⟨_, rfl, fun K hK => ?_⟩
            obtain ⟨hcz64_0, hcz64_1, hcz64_2, hcz64_3, hcz64_4, hfz64_0, hfz64_1, hfz64_2, hfz64_3, hfz64_4⟩ := bk5 (HM.bx 3 rfl)
            have e4 := POF ha 4
            replace ha := Aside0.mk ha
            exact VL (.agg #[.int .i64 a0_0, .int .i64 a0_1, .slice Xo5 l0_2.length ko5, .slice (some ⟨go59, 0, none⟩) l0_3.length ko6, .slice Xo7 l0_4.length ko7]) (hK.out _ _ ⟨PUT ha 0 hb, HM⟩)
           refine steps_cons ?_ ?_
           ·rintro b a w ⟨ha, HM⟩ hb hon hoff
            refine ⟨_, rfl, fun K hK => ?_⟩
            have e13 := POF ha 13
            replace ha := Aside0.mk ha
            exact VL (.pointer (some ⟨gb165, 1, none⟩)) (hK.out _ _ ⟨PUT ha 1 hb, HM⟩)
           refine steps_cons ?_ ?_
           ·rintro b a w ⟨ha, HM⟩ hb hon hoff
            refine ⟨_, rfl, fun K hK => ?_⟩
            obtain ⟨hcz65_0, hcz65_1, hcz65_2, hfz65_0, hfz65_1, hfz65_2⟩ := bk3 (HM.bx 5 rfl)
            have e64 := PON ha 1 (hon 1 (by kernel_rfl))
            replace ha := Aside0.mk ha
            exact VL (.string a3) (hK.out _ _ ⟨PUT ha 2 hb, HM⟩)
           refine steps_cons ?_ ?_
           ·rintro b a w ⟨ha, HM⟩ hb hon hoff
            refine ⟨_, rfl, fun K hK => ?_⟩
            replace HM := HM.sF 4 rfl hb
            have e8 := POF ha 8
            have e63 := PON ha 0 (hon 0 (by kernel_rfl))
            replace ha := Aside0.mk ha
            refine ST (eS 4 8 0 [.int .i64 a0_0, .int .i64 a0_1, .slice Xo5 l0_2.length ko5, .slice (some ⟨go59, 0, none⟩) l0_3.length ko6, .slice Xo7 l0_4.length ko7] HM rfl rfl ?_ (hp := (eval_of e8)) (hx := (by rw [eval_of e63]; rfl)))
            clear HM
            intro w66 HM
            exact hK.out _ _ ⟨PUS ha, (HM).pick [0, 1, 2, 3, 4, 5]⟩
           refine steps_cons ?_ ?_
           ·rintro b a w ⟨ha, HM⟩ hb hon hoff
            refine ⟨_, rfl, fun K hK => ?_⟩
            have e65 := PON ha 2 (hon 2 (by kernel_rfl))
            replace ha := Aside0.mk ha
            exact VL (.string a3) (hK.out _ _ ⟨PUT ha 3 hb, HM⟩)
           refine steps_cons ?_ ?_
           ·rintro b a w ⟨ha, HM⟩ hb hon hoff
            refine ⟨_, rfl, fun K hK => ?_⟩
            replace ha := Aside0.mk ha
            exact VL (.bool true) (hK.out _ _ ⟨PUT ha 4 hb, HM⟩)
           exact steps_nil
          rintro _ w67 ⟨rfl, HM⟩
          replace HM := HM.sT 4 rfl rfl
          simp only [putSel, if_true, Act.put, List.setIfInBounds_toArray, List.set_cons_zero, List.set_cons_succ, gt_iff_lt, ge_iff_le]
          simp only [Option.some.injEq, Prod.mk.injEq] at H
          obtain ⟨rfl, rfl, rfl, rfl, rfl, rfl, rfl⟩ := H
          go_wp2
          refine bodyPost_ret (results_ctt rfl _ _ gb162 32 #[.int .i64 a0_0, .int .i64 a0_1, .slice Xo5 l0_2.length ko5, .slice (some ⟨go59, 0, none⟩) l0_3.length ko6, .slice Xo7 l0_4.length ko7] (0, 0) _ rfl (HM.bx 4 rfl) Try.underlying32 rfl (by kernel_rfl)) rfl ?_
          exact ⟨_, _, _, ER, (MD HM).pick [0, 1, 2]⟩
        ·subst c39
         go_upto_if 52 with (fail)
         replace H := IT H; rcases H with ⟨c68, H⟩ | ⟨c68, H⟩
         ·have c68b0 : decide (0 ≤ t163) = true := decide_eq_true c68
          clear c68
          (first | rw [c68b0] | (simp only [i64_w, i32_w]; rw [c68b0]) | skip)
          replace H := GD H; obtain ⟨c71, H⟩ := H
          have c71b0 : decide (0 ≤ t163) = true := decide_eq_true c71
          clear c71
          replace H := GD H; obtain ⟨c72, H⟩ := H
          have c72b0 : decide (t163 < (l0_2.length : Int)) = true := decide_eq_true c72
          clear c72
          obtain ⟨hcz69_0, hcz69_1, hcz69_2, hcz69_3, hcz69_4, hfz69_0, hfz69_1, hfz69_2, hfz69_3, hfz69_4⟩ := bk5 (HM.bx 3 rfl)
          obtain ⟨hcz70_0, hcz70_1, hcz70_2, hfz70_0, hfz70_1, hfz70_2⟩ := bk3 (HM.bx 5 rfl)
          have p73 : 0 ≤ (t163 : Int) := of_decide_eq_true AS
          have q73 : (t163 : Int) < ((l0_2.length : Int) : Int) := of_decide_eq_true AS
          obtain ⟨go73, ef73⟩ := HM.form 0 rfl (by have h_ := (HM.CR 0 rfl).1; omega)
          subst ef73
          obtain ⟨hcc73, hfr73⟩ := HM.el 0 rfl z95 (t163 : Int) p73 (by have h_ := (HM.CR 0 rfl).1; omega) [.string ((rd_T95 l0_2 t163).f0), .string ((rd_T95 l0_2 t163).f1), .int .i64 ((rd_T95 l0_2 t163).f2)] (fun _ _ h => k95_openM h)
          have hx73_0 : w38.cell? ⟨go73, (t163 : Int).toNat * 3, none⟩ = some (.string ((rd_T95 l0_2 t163).f0)) := (by have h_ := hcc73 0 _ rfl; first | exact h_ | (simp only [show (k95).sz = 3 from rfl, Nat.mul_one, Nat.add_zero] at h_; exact h_) | simpa using h_)
          have hf73_0 : w38.frozen? ⟨go73, (t163 : Int).toNat * 3, none⟩ = false := (by have h_ := hfr73 0; first | exact h_ | (simp only [show (k95).sz = 3 from rfl, Nat.mul_one, Nat.add_zero] at h_; exact h_) | simpa using h_)
          have hx73_1 : w38.cell? ⟨go73, (t163 : Int).toNat * 3 + 1, none⟩ = some (.string ((rd_T95 l0_2 t163).f1)) := (by have h_ := hcc73 1 _ rfl; first | exact h_ | (simp only [show (k95).sz = 3 from rfl, Nat.mul_one, Nat.add_zero] at h_; exact h_) | simpa using h_)
          have hf73_1 : w38.frozen? ⟨go73, (t163 : Int).toNat * 3 + 1, none⟩ = false := (by have h_ := hfr73 1; first | exact h_ | (simp only [show (k95).sz = 3 from rfl, Nat.mul_one, Nat.add_zero] at h_; exact h_) | simpa using h_)
          have hx73_2 : w38.cell? ⟨go73, (t163 : Int).toNat * 3 + 2, none⟩ = some (.int .i64 ((rd_T95 l0_2 t163).f2)) := (by have h_ := hcc73 2 _ rfl; first | exact h_ | (simp only [show (k95).sz = 3 from rfl, Nat.mul_one, Nat.add_zero] at h_; exact h_) | simpa using h_)
          have hf73_2 : w38.frozen? ⟨go73, (t163 : Int).toNat * 3 + 2, none⟩ = false := (by have h_ := hfr73 2; first | exact h_ | (simp only [show (k95).sz = 3 from rfl, Nat.mul_one, Nat.add_zero] at h_; exact h_) | simpa using h_)
          clear hcc73 hfr73
          replace p73 := eq_true p73
          replace q73 := eq_true q73
          try go_wp2_with (first | ((with_reducible refine gate_st (p := 57) rfl ?_); refine pPR 0 57 (t163 : Int) 0 [.string x166000_23, .string x166001_23, .int .i64 t168] k95 95 l0_2 (⟨x166000_23, x166001_23, t168⟩ : S95) z95 [.string ((rd_T95 l0_2 t163).f0), .string ((rd_T95 l0_2 t163).f1), .int .i64 ((rd_T95 l0_2 t163).f2)] HM rfl rfl (of_decide_eq_true AS) (by have h_ : (t163 : Int) < ((l0_2.length : Int) : Int) := of_decide_eq_true AS; have e_ := (HM.CR 0 rfl).1; omega) (fun _ _ h => k95_openM h) (k95_mkM _ _ _ (⟨x166000_23, x166001_23, t168⟩ : S95)) ?_; clear HM; intro w74 HM))
          refine RGN 6 [0, 1, 2, 3, 4, 5] (fun a0 b a w' => a = putSel a0 b [(0, 63, .agg #[.int .i64 a0_0, .int .i64 a0_1, .slice (some ⟨go73, 0, none⟩) l0_2.length ko5, .slice Xo6 l0_3.length ko6, .slice Xo7 l0_4.length ko7]), (1, 64, .pointer (some ⟨gb165, 1, none⟩)), (2, 65, .string x166001_23), (4, 9, .string x166001_23), (5, 10, .bool true)] ∧ Mem w0 F w' [rowR k95 95 (.slice (some ⟨go73, 0, none⟩) l0_2.length ko5) (l0_2.set (t163 : Int).toNat (⟨x166000_23, x166001_23, t168⟩ : S95)), rowR k95 95 (.slice Xo6 l0_3.length ko6) l0_3, rowR (Kd.int .i64) 3 (.slice Xo7 l0_4.length ko7) l0_4, box 32 gb161 [.int .i64 a0_0, .int .i64 a0_1, .slice (some ⟨go73, 0, none⟩) l0_2.length ko5, .slice Xo6 l0_3.length ko6, .slice Xo7 l0_4.length ko7], sel (b 3) (box 32 gb162 [.int .i64 a0_0, .int .i64 a0_1, .slice (some ⟨go73, 0, none⟩) l0_2.length ko5, .slice Xo6 l0_3.length ko6, .slice Xo7 l0_4.length ko7]) (box 32 gb162 [.int .i64 0, .int .i64 0, .slice none 0 0, .slice none 0 0, .slice none 0 0]), box 95 gb165 [.string x166000_23, .string x166001_23, .int .i64 t168]]) spec_l10Touch.tab16 spec_l10Touch.bits16 ?_ ?_ ?_
          ·exact ⟨PS0' rfl _, (HM.drew).pick [0, 1, 2, 3, 4, 5]⟩
          ·clear HM
           refine steps_cons ?_ ?_
           ·rintro b a w ⟨ha, HM⟩ hb hon hoff
            refine ⟨_, rfl, fun K hK => ?_⟩
            obtain ⟨hcz78_0, hcz78_1, hcz78_2, hcz78_3, hcz78_4, hfz78_0, hfz78_1, hfz78_2, hfz78_3, hfz78_4⟩ := bk5 (HM.bx 3 rfl)
            have e4 := POF ha 4
            replace ha := Aside0.mk ha
            exact VL (.agg #[.int .i64 a0_0, .int .i64 a0_1, .slice (some ⟨go73, 0, none⟩) l0_2.length ko5, .slice Xo6 l0_3.length ko6, .slice Xo7 l0_4.length ko7]) (hK.out _ _ ⟨PUT ha 0 hb, HM⟩)
           refine steps_cons ?_ ?_
           ·rintro b a w ⟨ha, HM⟩ hb hon hoff
            refine ⟨_, rfl, fun K hK => ?_⟩
            have e13 := POF ha 13
            replace ha := Aside0.mk ha
            exact VL (.pointer (some ⟨gb165, 1, none⟩)) (hK.out _ _ ⟨PUT ha 1 hb, HM⟩)
           refine steps_cons ?_ ?_
           ·rintro b a w ⟨ha, HM⟩ hb hon hoff
            refine ⟨_, rfl, fun K hK => ?_⟩
            obtain ⟨hcz79_0, hcz79_1, hcz79_2, hfz79_0, hfz79_1, hfz79_2⟩ := bk3 (HM.bx 5 rfl)
            have e64 := PON ha 1 (hon 1 (by kernel_rfl))
            replace ha := Aside0.mk ha
            exact VL (.string x166001_23) (hK.out _ _ ⟨PUT ha 2 hb, HM⟩)
           refine steps_cons ?_ ?_
           ·rintro b a w ⟨ha, HM⟩ hb hon hoff
            refine ⟨_, rfl, fun K hK => ?_⟩
            replace HM := HM.sF 4 rfl hb
            have e8 := POF ha 8
            have e63 := PON ha 0 (hon 0 (by kernel_rfl))
            replace ha := Aside0.mk ha
            refine ST (eS 4 8 0 [.int .i64 a0_0, .int .i64 a0_1, .slice (some ⟨go73, 0, none⟩) l0_2.length ko5, .slice Xo6 l0_3.length ko6, .slice Xo7 l0_4.length ko7] HM rfl rfl ?_ (hp := (eval_of e8)) (hx := (by rw [eval_of e63]; rfl)))
            clear HM
            intro w80 HM
            exact hK.out _ _ ⟨PUS ha, (HM).pick [0, 1, 2, 3, 4, 5]⟩
           refine steps_cons ?_ ?_
           ·rintro b a w ⟨ha, HM⟩ hb hon hoff
            refine ⟨_, rfl, fun K hK => ?_⟩
            have e65 := PON ha 2 (hon 2 (by kernel_rfl))
            replace ha := Aside0.mk ha
            exact VL (.string x166001_23) (hK.out _ _ ⟨PUT ha 3 hb, HM⟩)
           refine steps_cons ?_ ?_
           ·rintro b a w ⟨ha, HM⟩ hb hon hoff
            refine ⟨_, rfl, fun K hK => ?_⟩
            replace ha := Aside0.mk ha
            exact VL (.bool true) (hK.out _ _ ⟨PUT ha 4 hb, HM⟩)
           exact steps_nil
          rintro _ w81 ⟨rfl, HM⟩
          replace HM := HM.sT 4 rfl rfl
          simp only [putSel, if_true, Act.put, List.setIfInBounds_toArray, List.set_cons_zero, List.set_cons_succ, gt_iff_lt, ge_iff_le]
          simp only [Option.some.injEq, Prod.mk.injEq] at H
          obtain ⟨rfl, rfl, rfl, rfl, rfl, rfl, rfl⟩ := H
          go_wp2
          refine bodyPost_ret (results_ctt rfl _ _ gb162 32 #[.int .i64 a0_0, .int .i64 a0_1, .slice (some ⟨go73, 0, none⟩) l0_2.length ko5, .slice Xo6 l0_3.length ko6, .slice Xo7 l0_4.length ko7] (0, 0) _ rfl (HM.bx 4 rfl) Try.underlying32 rfl (by kernel_rfl)) rfl ?_
          exact ⟨_, _, _, ER, (MD HM).pick [0, 1, 2]⟩
         ·have c68b0 : decide (0 ≤ t163) = false := decide_eq_false c68
          clear c68
          (first | rw [c68b0] | (simp only [i64_w, i32_w]; rw [c68b0]) | skip)
          replace H := GD H; obtain ⟨c84, H⟩ := H
          have c84b0 : decide (0 ≤ t164) = true := decide_eq_true c84
          clear c84
          replace H := GD H; obtain ⟨c85, H⟩ := H
          have c85b0 : decide (t164 < (l0_3.length : Int)) = true := decide_eq_true c85
          clear c85
          obtain ⟨hcz82_0, hcz82_1, hcz82_2, hcz82_3, hcz82_4, hfz82_0, hfz82_1, hfz82_2, hfz82_3, hfz82_4⟩ := bk5 (HM.bx 3 rfl)
          obtain ⟨hcz83_0, hcz83_1, hcz83_2, hfz83_0, hfz83_1, hfz83_2⟩ := bk3 (HM.bx 5 rfl)
          have p86 : 0 ≤ (t164 : Int) := of_decide_eq_true AS
          have q86 : (t164 : Int) < ((l0_3.length : Int) : Int) := of_decide_eq_true AS
          obtain ⟨go86, ef86⟩ := HM.form 1 rfl (by have h_ := (HM.CR 1 rfl).1; omega)
          subst ef86
          obtain ⟨hcc86, hfr86⟩ := HM.el 1 rfl z95 (t164 : Int) p86 (by have h_ := (HM.CR 1 rfl).1; omega) [.string ((rd_T95 l0_3 t164).f0), .string ((rd_T95 l0_3 t164).f1), .int .i64 ((rd_T95 l0_3 t164).f2)] (fun _ _ h => k95_openM h)
          have hx86_0 : w38.cell? ⟨go86, (t164 : Int).toNat * 3, none⟩ = some (.string ((rd_T95 l0_3 t164).f0)) := (by have h_ := hcc86 0 _ rfl; first | exact h_ | (simp only [show (k95).sz = 3 from rfl, Nat.mul_one, Nat.add_zero] at h_; exact h_) | simpa using h_)
          have hf86_0 : w38.frozen? ⟨go86, (t164 : Int).toNat * 3, none⟩ = false := (by have h_ := hfr86 0; first | exact h_ | (simp only [show (k95).sz = 3 from rfl, Nat.mul_one, Nat.add_zero] at h_; exact h_) | simpa using h_)
          have hx86_1 : w38.cell? ⟨go86, (t164 : Int).toNat * 3 + 1, none⟩ = some (.string ((rd_T95 l0_3 t164).f1)) := (by have h_ := hcc86 1 _ rfl; first | exact h_ | (simp only [show (k95).sz = 3 from rfl, Nat.mul_one, Nat.add_zero] at h_; exact h_) | simpa using h_)
          have hf86_1 : w38.frozen? ⟨go86, (t164 : Int).toNat * 3 + 1, none⟩ = false := (by have h_ := hfr86 1; first | exact h_ | (simp only [show (k95).sz = 3 from rfl, Nat.mul_one, Nat.add_zero] at h_; exact h_) | simpa using h_)
          have hx86_2 : w38.cell? ⟨go86, (t164 : Int).toNat * 3 + 2, none⟩ = some (.int .i64 ((rd_T95 l0_3 t164).f2)) := (by have h_ := hcc86 2 _ rfl; first | exact h_ | (simp only [show (k95).sz = 3 from rfl, Nat.mul_one, Nat.add_zero] at h_; exact h_) | simpa using h_)
          have hf86_2 : w38.frozen? ⟨go86, (t164 : Int).toNat * 3 + 2, none⟩ = false := (by have h_ := hfr86 2; first | exact h_ | (simp only [show (k95).sz = 3 from rfl, Nat.mul_one, Nat.add_zero] at h_; exact h_) | simpa using h_)
          clear hcc86 hfr86
          replace p86 := eq_true p86
          replace q86 := eq_true q86
          try go_wp2_with (first | ((with_reducible refine gate_st (p := 62) rfl ?_); refine pPR 1 62 (t164 : Int) 0 [.string x166000_23, .string x166001_23, .int .i64 t168] k95 95 l0_3 (⟨x166000_23, x166001_23, t168⟩ : S95) z95 [.string ((rd_T95 l0_3 t164).f0), .string ((rd_T95 l0_3 t164).f1), .int .i64 ((rd_T95 l0_3 t164).f2)] HM rfl rfl (of_decide_eq_true AS) (by have h_ : (t164 : Int) < ((l0_3.length : Int) : Int) := of_decide_eq_true AS; have e_ := (HM.CR 1 rfl).1; omega) (fun _ _ h => k95_openM h) (k95_mkM _ _ _ (⟨x166000_23, x166001_23, t168⟩ : S95)) ?_; clear HM; intro w87 HM))
          refine RGN 6 [0, 1, 2, 3, 4, 5] (fun a0 b a w' => a = putSel a0 b [(0, 63, .agg #[.int .i64 a0_0, .int .i64 a0_1, .slice Xo5 l0_2.length ko5, .slice (some ⟨go86, 0, none⟩) l0_3.length ko6, .slice Xo7 l0_4.length ko7]), (1, 64, .pointer (some ⟨gb165, 1, none⟩)), (2, 65, .string x166001_23), (4, 9, .string x166001_23), (5, 10, .bool true)] ∧ Mem w0 F w' [rowR k95 95 (.slice Xo5 l0_2.length ko5) l0_2, rowR k95 95 (.slice (some ⟨go86, 0, none⟩) l0_3.length ko6) (l0_3.set (t164 : Int).toNat (⟨x166000_23, x166001_23, t168⟩ : S95)), rowR (Kd.int .i64) 3 (.slice Xo7 l0_4.length ko7) l0_4, box 32 gb161 [.int .i64 a0_0, .int .i64 a0_1, .slice Xo5 l0_2.length ko5, .slice (some ⟨go86, 0, none⟩) l0_3.length ko6, .slice Xo7 l0_4.length ko7], sel (b 3) (box 32 gb162 [.int .i64 a0_0, .int .i64 a0_1, .slice Xo5 l0_2.length ko5, .slice (some ⟨go86, 0, none⟩) l0_3.length ko6, .slice Xo7 l0_4.length ko7]) (box 32 gb162 [.int .i64 0, .int .i64 0, .slice none 0 0, .slice none 0 0, .slice none 0 0]), box 95 gb165 [.string x166000_23, .string x166001_23, .int .i64 t168]]) spec_l10Touch.tab16 spec_l10Touch.bits16 ?_ ?_ ?_
          ·exact ⟨PS0' rfl _, (HM.drew).pick [0, 1, 2, 3, 4, 5]⟩
          ·clear HM
           refine steps_cons ?_ ?_
           ·rintro b a w ⟨ha, HM⟩ hb hon hoff
            refine ⟨_, rfl, fun K hK => ?_⟩
            obtain ⟨hcz91_0, hcz91_1, hcz91_2, hcz91_3, hcz91_4, hfz91_0, hfz91_1, hfz91_2, hfz91_3, hfz91_4⟩ := bk5 (HM.bx 3 rfl)
            have e4 := POF ha 4
            replace ha := Aside0.mk ha
            exact VL (.agg #[.int .i64 a0_0, .int .i64 a0_1, .slice Xo5 l0_2.length ko5, .slice (some ⟨go86, 0, none⟩) l0_3.length ko6, .slice Xo7 l0_4.length ko7]) (hK.out _ _ ⟨PUT ha 0 hb, HM⟩)
           refine steps_cons ?_ ?_
           ·rintro b a w ⟨ha, HM⟩ hb hon hoff
            refine ⟨_, rfl, fun K hK => ?_⟩
            have e13 := POF ha 13
            replace ha := Aside0.mk ha
            exact VL (.pointer (some ⟨gb165, 1, none⟩)) (hK.out _ _ ⟨PUT ha 1 hb, HM⟩)
           refine steps_cons ?_ ?_
           ·rintro b a w ⟨ha, HM⟩ hb hon hoff
            refine ⟨_, rfl, fun K hK => ?_⟩
            obtain ⟨hcz92_0, hcz92_1, hcz92_2, hfz92_0, hfz92_1, hfz92_2⟩ := bk3 (HM.bx 5 rfl)
            have e64 := PON ha 1 (hon 1 (by kernel_rfl))
            replace ha := Aside0.mk ha
            exact VL (.string x166001_23) (hK.out _ _ ⟨PUT ha 2 hb, HM⟩)
           refine steps_cons ?_ ?_
           ·rintro b a w ⟨ha, HM⟩ hb hon hoff
            refine ⟨_, rfl, fun K hK => ?_⟩
            replace HM := HM.sF 4 rfl hb
            have e8 := POF ha 8
            have e63 := PON ha 0 (hon 0 (by kernel_rfl))
            replace ha := Aside0.mk ha
            refine ST (eS 4 8 0 [.int .i64 a0_0, .int .i64 a0_1, .slice Xo5 l0_2.length ko5, .slice (some ⟨go86, 0, none⟩) l0_3.length ko6, .slice Xo7 l0_4.length ko7] HM rfl rfl ?_ (hp := (eval_of e8)) (hx := (by rw [eval_of e63]; rfl)))
            clear HM
            intro w93 HM
            exact hK.out _ _ ⟨PUS ha, (HM).pick [0, 1, 2, 3, 4, 5]⟩
           refine steps_cons ?_ ?_
           ·rintro b a w ⟨ha, HM⟩ hb hon hoff
            refine ⟨_, rfl, fun K hK => ?_⟩
            have e65 := PON ha 2 (hon 2 (by kernel_rfl))
            replace ha := Aside0.mk ha
            exact VL (.string x166001_23) (hK.out _ _ ⟨PUT ha 3 hb, HM⟩)
           refine steps_cons ?_ ?_
           ·rintro b a w ⟨ha, HM⟩ hb hon hoff
            refine ⟨_, rfl, fun K hK => ?_⟩
            replace ha := Aside0.mk ha
            exact VL (.bool true) (hK.out _ _ ⟨PUT ha 4 hb, HM⟩)
           exact steps_nil
          rintro _ w94 ⟨rfl, HM⟩
          replace HM := HM.sT 4 rfl rfl
          simp only [putSel, if_true, Act.put, List.setIfInBounds_toArray, List.set_cons_zero, List.set_cons_succ, gt_iff_lt, ge_iff_le]
          simp only [Option.some.injEq, Prod.mk.injEq] at H
          obtain ⟨rfl, rfl, rfl, rfl, rfl, rfl, rfl⟩ := H
          go_wp2
          refine bodyPost_ret (results_ctt rfl _ _ gb162 32 #[.int .i64 a0_0, .int .i64 a0_1, .slice Xo5 l0_2.length ko5, .slice (some ⟨go86, 0, none⟩) l0_3.length ko6, .slice Xo7 l0_4.length ko7] (0, 0) _ rfl (HM.bx 4 rfl) Try.underlying32 rfl (by kernel_rfl)) rfl ?_
          exact ⟨_, _, _, ER, (MD HM).pick [0, 1, 2]⟩
def spec_Get.f (k : Nat) (a0_0 : Int) (a0_1 : Int) (l0_2 : List (S95)) (l0_3 : List (S95)) (l0_4 : List Int) (a1 : ByteArray) : Option (Int × Int × (List (S95)) × (List (S95)) × List Int × ByteArray × Bool) := (spec_ThreeOk.f k a0_0 a0_1 l0_2 l0_3 l0_4).bind fun t175 => (if t175 = true then ((spec_l10Copy.f a0_0 a0_1 l0_2 l0_3 l0_4).bind fun bt176 => ((spec_l10Touch.f k bt176.1 bt176.2.1 bt176.2.2.1 bt176.2.2.2.1 bt176.2.2.2.2 a1 false (⟨#[]⟩ : ByteArray)).bind fun bt187 => (some (bt187.1, bt187.2.1, bt187.2.2.1, bt187.2.2.2.1, bt187.2.2.2.2.1, bt187.2.2.2.2.2.1, bt187.2.2.2.2.2.2)))) else (some (0, 0, ([] : List (S95)), ([] : List (S95)), ([] : List Int), (⟨#[]⟩ : ByteArray), false)))
theorem spec_Get.mono : ∀ a0 a1 a2 a3 a4 a5 k, LeO (spec_Get.f k a0 a1 a2 a3 a4 a5) (spec_Get.f (k + 1) a0 a1 a2 a3 a4 a5) := by
 intro a0 a1 a2 a3 a4 a5 k
 unfold spec_Get.f
 repeat' first | (with_reducible first | exact spec_ThreeOk.mono _ _ _ _ _ _ | exact spec_l10Touch.mono _ _ _ _ _ _ _ _ _ | exact LeO.refl _ | exact LeO.none _ | refine LeO.ite ?_ ?_ | refine LeO.bind ?_ (fun _ => ?_)) | exact spec_ThreeOk.mono _ _ _ _ _ _ | exact spec_l10Touch.mono _ _ _ _ _ _ _ _ _ | exact LeO.none _ | refine LeO.ite ?_ ?_ | refine LeO.bind ?_ (fun _ => ?_)
set_option maxHeartbeats 8000000 in
set_option maxRecDepth 100000 in
theorem spec_Get.calls (k : Nat) (a0_0 : Int) (a0_1 : Int) (A0_2 : Option Addr) (c0_2 : Nat) (l0_2 : List (S95)) (A0_3 : Option Addr) (c0_3 : Nat) (l0_3 : List (S95)) (A0_4 : Option Addr) (c0_4 : Nat) (l0_4 : List Int) (a1 : ByteArray) (r1 : Int) (r2 : Int) (r3 : List (S95)) (r4 : List (S95)) (r5 : List Int) (r6 : ByteArray) (r7 : Bool) (w : World) (hr0_2 : Kd.C k95 w A0_2 l0_2.length l0_2) (hc0_2 : l0_2.length ≤ c0_2) (hr0_3 : Kd.C k95 w A0_3 l0_3.length l0_3) (hc0_3 : l0_3.length ≤ c0_3) (hr0_4 : Kd.C (Kd.int .i64) w A0_4 l0_4.length l0_4) (hc0_4 : l0_4.length ≤ c0_4) (h : spec_Get.f k a0_0 a0_1 l0_2 l0_3 l0_4 a1 = some (r1, r2, r3, r4, r5, r6, r7)) :
  Calls Try.prog 34 #[.agg #[.int .i64 a0_0, .int .i64 a0_1, .slice A0_2 l0_2.length c0_2, .slice A0_3 l0_3.length c0_3, .slice A0_4 l0_4.length c0_4], .string a1] w fun e w' => ∃ v2_ v3_ v4_ : Value, e = .returned (.tuple #[.agg #[.int .i64 r1, .int .i64 r2, v2_, v3_, v4_], .string r6, .bool r7]) ∧ Mem w [] w' [rowR k95 95 v2_ r3, rowR k95 95 v3_ r4, rowR (Kd.int .i64) 3 v4_ r5] := by
 have hu32 := Try.underlying32
 have HR0_2 := Aside0.mk hr0_2
 have HC0_2 := Aside0.mk hc0_2
 clear hr0_2 hc0_2
 have HR0_3 := Aside0.mk hr0_3
 have HC0_3 := Aside0.mk hc0_3
 clear hr0_3 hc0_3
 have HR0_4 := Aside0.mk hr0_4
 have HC0_4 := Aside0.mk hc0_4
 clear hr0_4 hc0_4
 have HM := Mem.nil w
 have H := h
 clear h
 unfold spec_Get.f at H
 go_enter Try.func34, Try.ntmps34
 replace H := BN H; obtain ⟨t175, A6, H⟩ := H
 go_upto_if 9 with (first | ((with_reducible refine gate_dst (N := 2) rfl ?_); refine pB 2 32 [.int .i64 a0_0, .int .i64 a0_1, .slice A0_2 l0_2.length c0_2, .slice A0_3 l0_3.length c0_3, .slice A0_4 l0_4.length c0_4] HM rfl ?_; clear HM; intro gb173 w3 HM) | ((with_reducible refine gate_dst (N := 4) rfl ?_); refine pB 4 32 [.int .i64 0, .int .i64 0, .slice none 0 0, .slice none 0 0, .slice none 0 0] HM rfl ?_; clear HM; intro gb174 w4 HM; obtain ⟨hcz5_0, hcz5_1, hcz5_2, hcz5_3, hcz5_4, hfz5_0, hfz5_1, hfz5_2, hfz5_3, hfz5_4⟩ := bk5 (HM.bx 0 rfl)) | ((with_reducible refine gate_callee (f := 32) rfl ?_); refine pC (some 8) rfl #[.agg #[.int .i64 a0_0, .int .i64 a0_1, .slice A0_2 l0_2.length c0_2, .slice A0_3 l0_3.length c0_3, .slice A0_4 l0_4.length c0_4]] rfl Try.func32 (spec_ThreeOk.calls k a0_0 a0_1 _ _ l0_2 _ _ l0_3 _ _ l0_4 t175 _ (HM.came HR0_2.out) HC0_2.out (HM.came HR0_3.out) HC0_3.out (HM.came HR0_4.out) HC0_4.out A6.out) ?_; rintro e w7 ⟨rfl, hR⟩; refine ⟨_, rfl, ?_⟩; replace HM := HM.call hR; clear hR))
 replace HM := nzM HM
 replace H := IB H
 rcases H with ⟨c8, H⟩ | ⟨c8, H⟩
 ·subst c8
  replace H := BN H; obtain ⟨⟨t176, t177, t178, t181, t184⟩, A10, H⟩ := H
  replace H := BN H; obtain ⟨⟨t187, t188, t189, t192, t195, t198, t199⟩, A12, H⟩ := H
  simp only [Option.some.injEq, Prod.mk.injEq] at H
  obtain ⟨rfl, rfl, rfl, rfl, rfl, rfl, rfl⟩ := H
  obtain ⟨hcz9_0, hcz9_1, hcz9_2, hcz9_3, hcz9_4, hfz9_0, hfz9_1, hfz9_2, hfz9_3, hfz9_4⟩ := bk5 (HM.bx 0 rfl)
  go_wp2_with (first | ((with_reducible refine gate_callee (f := 48) rfl ?_); refine pC (some 12) rfl #[.agg #[.int .i64 a0_0, .int .i64 a0_1, .slice A0_2 l0_2.length c0_2, .slice A0_3 l0_3.length c0_3, .slice A0_4 l0_4.length c0_4]] rfl Try.func48 (spec_l10Copy.calls a0_0 a0_1 _ _ l0_2 _ _ l0_3 _ _ l0_4 t176 t177 t178 t181 t184 _ (HM.came HR0_2.out) HC0_2.out (HM.came HR0_3.out) HC0_3.out (HM.came HR0_4.out) HC0_4.out A10.out) ?_; rintro e w11 ⟨v179, v182, v185, rfl, hR⟩; refine ⟨_, rfl, ?_⟩; replace HM := HM.call hR; clear hR) | ((with_reducible refine gate_callee (f := 69) rfl ?_); refine pC (some 14) rfl #[.agg #[.int .i64 t176, .int .i64 t177, v179, v182, v185], .string a1, .bool false, .string (⟨#[]⟩ : ByteArray)] rfl Try.func69 (spec_l10Touch.calls k t176 t177 v179 t178 v182 t181 v185 t184 a1 false (⟨#[]⟩ : ByteArray) t187 t188 t189 t192 t195 t198 t199 _ _ _ (HM.focus [0, 1] [2, 3, 4]) A12.out) ?_; rintro e w13 ⟨v190, v193, v196, rfl, hR⟩; refine ⟨_, rfl, ?_⟩; replace HM := nzM hR.unfocus; clear hR; obtain ⟨Xo14, ko14, eo14⟩ := HM.rdR 2 rfl; subst eo14; obtain ⟨Xo15, ko15, eo15⟩ := HM.rdR 3 rfl; subst eo15; obtain ⟨Xo16, ko16, eo16⟩ := HM.rdR 4 rfl; subst eo16) | ((with_reducible refine gate_st (p := 4) rfl ?_); refine pS 1 4 0 [.int .i64 t187, .int .i64 t188, .slice Xo14 t189.length ko14, .slice Xo15 t192.length ko15, .slice Xo16 t195.length ko16] HM rfl rfl ?_; clear HM; intro w17 HM))
  refine bodyPost_ret (results_ctt rfl _ _ gb174 32 #[.int .i64 t187, .int .i64 t188, .slice Xo14 t189.length ko14, .slice Xo15 t192.length ko15, .slice Xo16 t195.length ko16] (0, 0) _ rfl (HM.bx 1 rfl) Try.underlying32 rfl (by kernel_rfl)) rfl ?_
  exact ⟨_, _, _, ER, (MD HM).pick [2, 3, 4]⟩
 ·subst c8
  simp only [Option.some.injEq, Prod.mk.injEq] at H
  obtain ⟨rfl, rfl, rfl, rfl, rfl, rfl, rfl⟩ := H
  go_wp2_with (first | ((with_reducible refine gate_st (p := 4) rfl ?_); refine pS 1 4 0 [.int .i64 0, .int .i64 0, .slice none 0 0, .slice none 0 0, .slice none 0 0] HM rfl rfl ?_; clear HM; intro w18 HM; replace HM := HM.nl k95 95; replace HM := HM.nl k95 95; replace HM := HM.nl (Kd.int .i64) 3))
  refine bodyPost_ret (results_ctt rfl _ _ gb174 32 #[.int .i64 0, .int .i64 0, .slice none 0 0, .slice none 0 0, .slice none 0 0] (0, 0) _ rfl (HM.bx 1 rfl) Try.underlying32 rfl (by kernel_rfl)) rfl ?_
  exact ⟨_, _, _, ER, (MD HM).pick [2, 3, 4]⟩
end Go.Proofs.Ytdeijmofaapgdaa.G

namespace Go.Proofs.Ytdeijmofaapgdaa.G
open Go.RowKit Go.Proofs.YtdeijmofaapgdaaW.PrintWords Go.Proofs.YtdeijmofaapgdaaW.PrintLast Go.Proofs.YtdeijmofaapgdaaW.PrintMore Go.Proofs.Ytdeijmofaapgdaa.Sh
attribute [local go_sem] max2_int min2_int max_two min_two max_three min_three max_four min_four
set_option linter.unusedVariables false
set_option linter.unusedSimpArgs false
def spec_Hash.l0 : Nat → ByteArray → Int → Int → Option (Int)
 | 0, _, _, _ => none
 | k + 1, x0, x3, x4 => if x4 < (x0.size : Int) then (if 0 ≤ x4 then (spec_Hash.l0 k x0 (Int.tmod (wrap64 ((Go.bits .xor .i64 x3 (wrap64 (bt x0 x4))) * 16777619)) 4294967296) (wrap64 (x4 + 1))) else (none)) else (some x3)
def spec_Hash.f (k : Nat) (a0 : ByteArray) : Option (Int) := spec_Hash.l0 k a0 2166136261 0
theorem spec_Hash.mono_l : ∀ k, (∀ y0 y1 y2, LeO (spec_Hash.l0 k y0 y1 y2) (spec_Hash.l0 (k + 1) y0 y1 y2))
 | 0 => fun _ _ _ r h => by simp [spec_Hash.l0] at h
 | k + 1 => by
  have ih0 := spec_Hash.mono_l k
  ·intro y0 y1 y2
   unfold spec_Hash.l0
   repeat' first | (with_reducible first | exact ih0 _ _ _ | exact LeO.refl _ | exact LeO.none _ | refine LeO.ite ?_ ?_ | refine LeO.bind ?_ (fun _ => ?_)) | exact ih0 _ _ _ | exact LeO.none _ | refine LeO.ite ?_ ?_ | refine LeO.bind ?_ (fun _ => ?_)
theorem spec_Hash.mono : ∀ a0 k, LeO (spec_Hash.f k a0) (spec_Hash.f (k + 1) a0) := by
 intro a0 k
 have ih0 := spec_Hash.mono_l k
 unfold spec_Hash.f
 repeat' first | (with_reducible first | exact ih0 _ _ _ | exact LeO.refl _ | exact LeO.none _ | refine LeO.ite ?_ ?_ | refine LeO.bind ?_ (fun _ => ?_)) | exact ih0 _ _ _ | exact LeO.none _ | refine LeO.ite ?_ ?_ | refine LeO.bind ?_ (fun _ => ?_)
set_option maxHeartbeats 8000000 in
set_option maxRecDepth 100000 in
theorem spec_Hash.calls (k : Nat) (a0 : ByteArray) (r : Int) (w : World) (h : spec_Hash.f k a0 = some r) :
  Calls Try.prog 71 #[.string a0] w fun e w' => e = .returned (.int .i64 r) ∧ Drawn0 w w' := by
 have H : (spec_Hash.l0 k a0 2166136261 0) = some r := h
 clear h
 have H' := Aside0.mk H
 clear H
 go_enter Try.func71, Try.ntmps71
 go_wp2
 go_loopg [3, 4] k (fun kq v3 v4 w' => ∃ (x3_1 : Int) (x4_1 : Int), v3 = .int .i64 x3_1 ∧ v4 = .int .i64 x4_1 ∧ Aside0 (spec_Hash.l0 kq a0 x3_1 x4_1 = some r) ∧ Aside0 (kq ≤ k) ∧ Drawn0 w w')
 case atStart => exact ⟨(2166136261), (0), RS, RS, H', ⟨Nat.le_refl _⟩, DR⟩
 case round =>
  clear H'
  obtain ⟨x3_1, x4_1, rfl, rfl, HA, HK1, ⟨m1, rfl⟩⟩ := hrel
  cases gk with
  | zero => exact absurd HA.out (by simp [spec_Hash.l0])
  | succ k1 =>
   have H := HA.out
   clear HA
   simp only [spec_Hash.l0] at H
   by_cases c2 : x4_1 < (a0.size : Int)
   ·rw [if_pos c2] at H
    have c2b0 : decide (x4_1 < (a0.size : Int)) = true := decide_eq_true c2
    clear c2
    by_cases c3 : 0 ≤ x4_1
    ·rw [if_pos c3] at H
     have c3b0 : decide (0 ≤ x4_1) = true := decide_eq_true c3
     clear c3
     have H' := Aside0.mk H
     clear H
     have p4 : 0 ≤ (x4_1 : Int) := of_decide_eq_true AS
     have q4 : x4_1 < (a0.size : Int) := of_decide_eq_true AS
     have hx4 := bt_at a0 x4_1
     replace p4 := eq_true p4
     replace q4 := eq_true q4
     go_wp2
     go_roundg k1
     case measure => have := HK1.out; omega
     case rel => exact ⟨(Int.tmod (wrap64 ((Go.bits .xor .i64 x3_1 (wrap64 (bt a0 x4_1))) * 16777619)) 4294967296), (wrap64 (x4_1 + 1)), RS, RS, H', ⟨by have := HK1.out; omega⟩, DR⟩
    ·rw [if_neg c3] at H
     exact absurd H (by simp)
   ·rw [if_neg c2] at H
    have c2b0 : decide (x4_1 < (a0.size : Int)) = false := decide_eq_false c2
    clear c2
    obtain rfl := Option.some.inj H
    go_wp2
    go_ret
    exact ⟨by first | rfl | (simp; done) | (simp [*]; done), DR⟩
end Go.Proofs.Ytdeijmofaapgdaa.G

namespace Go.Proofs.Ytdeijmofaapgdaa.G
open Go.RowKit Go.Proofs.YtdeijmofaapgdaaW.PrintWords Go.Proofs.YtdeijmofaapgdaaW.PrintLast Go.Proofs.YtdeijmofaapgdaaW.PrintMore Go.Proofs.Ytdeijmofaapgdaa.Sh
attribute [local go_sem] max2_int min2_int max_two min_two max_three min_three max_four min_four
set_option linter.unusedVariables false
set_option linter.unusedSimpArgs false
open Go.Proofs.Ytdeijmofaapgdaa.Mm
def spec_l08But.l0 : Nat → Int → List Int → List Int → Int → Int → Option (List Int)
 | 0, _, _, _, _, _ => none
 | k + 1, x1, x5, x9, x10, x11 => if x11 < x10 then (if 0 ≤ x11 then (if x11 < (x9.length : Int) then (if (rd x9 x11) = x1 then (spec_l08But.l0 k x1 x5 x9 x10 (wrap64 (x11 + 1))) else (if x5.length < 17592186044416 then (spec_l08But.l0 k x1 (x5 ++ [rd x9 x11]) x9 x10 (wrap64 (x11 + 1))) else (none))) else (none)) else (none)) else (some x5)
def spec_l08But.f (k : Nat) (l0 : List Int) (a1 : Int) : Option (List Int) := spec_l08But.l0 k a1 (([] : List Int)) l0 (l0.length : Int) 0
theorem spec_l08But.mono_l : ∀ k, (∀ y0 y1 y2 y3 y4, LeO (spec_l08But.l0 k y0 y1 y2 y3 y4) (spec_l08But.l0 (k + 1) y0 y1 y2 y3 y4))
 | 0 => fun _ _ _ _ _ r h => by simp [spec_l08But.l0] at h
 | k + 1 => by
  have ih0 := spec_l08But.mono_l k
  ·intro y0 y1 y2 y3 y4
   unfold spec_l08But.l0
   repeat' first | (with_reducible first | exact ih0 _ _ _ _ _ | exact LeO.refl _ | exact LeO.none _ | refine LeO.ite ?_ ?_ | refine LeO.bind ?_ (fun _ => ?_)) | exact ih0 _ _ _ _ _ | exact LeO.none _ | refine LeO.ite ?_ ?_ | refine LeO.bind ?_ (fun _ => ?_)
theorem spec_l08But.mono : ∀ a0 a1 k, LeO (spec_l08But.f k a0 a1) (spec_l08But.f (k + 1) a0 a1) := by
 intro a0 a1 k
 have ih0 := spec_l08But.mono_l k
 unfold spec_l08But.f
 repeat' first | (with_reducible first | exact ih0 _ _ _ _ _ | exact LeO.refl _ | exact LeO.none _ | refine LeO.ite ?_ ?_ | refine LeO.bind ?_ (fun _ => ?_)) | exact ih0 _ _ _ _ _ | exact LeO.none _ | refine LeO.ite ?_ ?_ | refine LeO.bind ?_ (fun _ => ?_)
set_option maxHeartbeats 8000000 in
set_option maxRecDepth 100000 in
theorem spec_l08But.calls (k : Nat) (A0 : Option Addr) (c0 : Nat) (l0 : List Int) (a1 : Int) (r : List Int) (w : World) (hr0 : Kd.C (Kd.int .i64) w A0 l0.length l0) (hc0 : l0.length ≤ c0) (h : spec_l08But.f k l0 a1 = some r) :
  Calls Try.prog 72 #[.slice A0 l0.length c0, .int .i64 a1] w fun e w' => ∃ v0_ : Value, e = .returned (v0_) ∧ Mem w [] w' [rowR (Kd.int .i64) 3 v0_ r] := by
 have HR0 := Aside0.mk hr0
 have HC0 := Aside0.mk hc0
 clear hr0 hc0
 have HM := Mem.nil w
 have H := h
 clear h
 unfold spec_l08But.f at H
 go_enter Try.func72, Try.ntmps72
 have H' := Aside0.mk H
 clear H
 go_wp2_with (first | ((with_reducible refine gate_dst (N := 8) rfl ?_); refine pL 8 (Kd.int .i64) 3 ([] : List Int) [] (Reps.none _ _) HM rfl ?_; clear HM; intro v204 w3 HM))
 go_loopg [5, 11] k (fun kq v5 v11 w' => ∃ (x5_1 : List Int) (x11_1 : Int), v11 = .int .i64 x11_1 ∧ Aside0 (spec_l08But.l0 kq a1 x5_1 l0 (l0.length : Int) x11_1 = some r) ∧ Aside0 (kq ≤ k) ∧ Mem w [] w' [rowR (Kd.int .i64) 3 v5 x5_1])
 case atStart => exact ⟨((([] : List Int))), (0), RS, H', ⟨Nat.le_refl _⟩, (MD HM).pick [0]⟩
 case round =>
  clear H' HM
  obtain ⟨x5_1, x11_1, rfl, HA, HK1, HM⟩ := hrel
  cases gk with
  | zero => exact absurd HA.out (by simp [spec_l08But.l0])
  | succ k1 =>
   have H := HA.out
   clear HA
   simp only [spec_l08But.l0] at H
   go_upto_if 12 with (fail)
   replace H := IT H; rcases H with ⟨c4, H⟩ | ⟨c4, H⟩
   ·have c4b0 : decide (x11_1 < (l0.length : Int)) = true := decide_eq_true c4
    clear c4
    (first | rw [c4b0] | (simp only [i64_w, i32_w]; rw [c4b0]) | skip)
    replace H := GD H; obtain ⟨c5, H⟩ := H
    have c5b0 : decide (0 ≤ x11_1) = true := decide_eq_true c5
    clear c5
    replace H := GD H; obtain ⟨c6, H⟩ := H
    have c6b0 : decide (x11_1 < (l0.length : Int)) = true := decide_eq_true c6
    clear c6
    have p206 : 0 ≤ (x11_1 : Int) := of_decide_eq_true AS
    have q206 : (x11_1 : Int) < (l0.length : Int) := of_decide_eq_true AS
    obtain ⟨ad206, e206, hx206_0⟩ := Kd.at_int (HM.came HR0.out) x11_1 p206 q206
    cases e206
    replace p206 := eq_true p206
    replace q206 := eq_true q206
    go_upto_if 17 with (fail)
    replace H := IT H; rcases H with ⟨c7, H⟩ | ⟨c7, H⟩
    ·have c7b0 : ((rd l0 x11_1) == a1) = true := beq_iff_eq.mpr c7
     have c7b1 : ((rd l0 x11_1) != a1) = false := bne_eq_false_iff_eq.mpr c7
     clear c7
     (first | rw [c7b0] | (simp only [i64_w, i32_w]; rw [c7b0]) | skip)
     have H' := Aside0.mk H
     clear H
     go_wp2
     go_roundg k1
     case measure => have := HK1.out; omega
     case rel => exact ⟨(x5_1), (wrap64 (x11_1 + 1)), RS, H', ⟨by have := HK1.out; omega⟩, (MD HM).pick [0]⟩
    ·have c7b0 : ((rd l0 x11_1) == a1) = false := beq_eq_false_iff_ne.mpr c7
     have c7b1 : ((rd l0 x11_1) != a1) = true := bne_iff_ne.mpr c7
     (first | rw [c7b0] | (simp only [i64_w, i32_w]; rw [c7b0]) | skip)
     replace H := GD H; obtain ⟨c8, H⟩ := H
     have LMc8 := Aside0.mk c8
     clear c8
     have H' := Aside0.mk H
     clear H
     go_wp2_with (first | ((with_reducible refine gate_dst (N := 20) rfl ?_); refine pL 20 (Kd.int .i64) 3 [rd l0 x11_1] [.int .i64 (rd l0 x11_1)] (Reps.one (show Kd.M (Kd.int .i64) _ _ _ (rd l0 x11_1) [.int .i64 (rd l0 x11_1)] from rfl) (Reps.none _ _)) HM rfl ?_; clear HM; intro v10 w9 HM; obtain ⟨Xv10, kv10, ev10⟩ := HM.rdR 1 rfl; subst ev10) | ((with_reducible refine gate_builtin (b := .append) (xs := #[.tmp 18, .tmp 20]) rfl ?_); refine pA 0 (.tmp 18) (.tmp 20) 23 3 (Kd.int .i64) u5 x5_1 [rd l0 x11_1] Xv10 ([rd l0 x11_1].length) kv10 HM rfl Try.underlying23 info3 rfl (HM.CR 1 rfl).2.2 (by have h_ := LMc8.out; simp only [List.length_singleton]; omega) ?_; clear HM; intro v208 w11 HM))
     go_roundg k1
     case measure => have := HK1.out; omega
     case rel => exact ⟨((x5_1 ++ [rd l0 x11_1])), (wrap64 (x11_1 + 1)), RS, H', ⟨by have := HK1.out; omega⟩, (MD HM).pick [0]⟩
   ·have c4b0 : decide (x11_1 < (l0.length : Int)) = false := decide_eq_false c4
    clear c4
    (first | rw [c4b0] | (simp only [i64_w, i32_w]; rw [c4b0]) | skip)
    obtain rfl := Option.some.inj H
    go_wp2
    go_ret
    exact ⟨_, ER, (MD HM).pick [0]⟩
def spec_l10Haunt.f (k : Nat) (a0_0 : Int) (a0_1 : Int) (l0_2 : List (S95)) (l0_3 : List (S95)) (l0_4 : List Int) (a1 : Int) : Option (Int × Int × (List (S95)) × (List (S95)) × List Int) := (spec_l08But.f k l0_4 a1).bind fun t212 => (if t212.length < 17592186044416 then ((some (t212 ++ [a1] : List Int)).bind fun y215 => ((spec_l10Ghosts.f a0_0 a0_1 l0_2 l0_3 y215).bind fun t218 => (if (y215.length : Int) > t218 then (if 1 ≤ (y215.length : Int) then (some (a0_0, a0_1, l0_2, l0_3, (y215.drop (1 : Int).toNat))) else (none)) else (some (a0_0, a0_1, l0_2, l0_3, y215))))) else (none))
theorem spec_l10Haunt.mono : ∀ a0 a1 a2 a3 a4 a5 k, LeO (spec_l10Haunt.f k a0 a1 a2 a3 a4 a5) (spec_l10Haunt.f (k + 1) a0 a1 a2 a3 a4 a5) := by
 intro a0 a1 a2 a3 a4 a5 k
 unfold spec_l10Haunt.f
 repeat' first | (with_reducible first | exact spec_l08But.mono _ _ _ | exact LeO.refl _ | exact LeO.none _ | refine LeO.ite ?_ ?_ | refine LeO.bind ?_ (fun _ => ?_)) | exact spec_l08But.mono _ _ _ | exact LeO.none _ | refine LeO.ite ?_ ?_ | refine LeO.bind ?_ (fun _ => ?_)
def spec_l10Haunt.T2 : Bool × List (List Nat × List Nat) := (true, [([], []), ([0], [0]), ([1], [1]), ([], []), ([3], [3]), ([2, 4], [2, 4])])
def spec_l10Haunt.B2 : List Nat := [0, 1, 3, 0, 8, 31]
theorem spec_l10Haunt.tab2 : rtab .any (opsOf Try.f103 2) = spec_l10Haunt.T2 := by kernel_rfl
theorem spec_l10Haunt.bits2 : waitsOk spec_l10Haunt.T2.2 spec_l10Haunt.B2 = true := by kernel_rfl
set_option maxHeartbeats 8000000 in
set_option maxRecDepth 100000 in
theorem spec_l10Haunt.calls (k : Nat) (a0_0 : Int) (a0_1 : Int) (u9000_ : Value) (l0_2 : List (S95)) (u9001_ : Value) (l0_3 : List (S95)) (A0_4 : Option Addr) (c0_4 : Nat) (l0_4 : List Int) (a1 : Int) (r1 : Int) (r2 : Int) (r3 : List (S95)) (r4 : List (S95)) (r5 : List Int) (w0 w : World) (F : List SP)  (hM : Mem w0 F w [rowR k95 95 u9000_ l0_2, rowR k95 95 u9001_ l0_3, row (Kd.int .i64) 3 (.slice A0_4 l0_4.length c0_4) l0_4]) (h : spec_l10Haunt.f k a0_0 a0_1 l0_2 l0_3 l0_4 a1 = some (r1, r2, r3, r4, r5)) :
  Calls Try.prog 103 #[.agg #[.int .i64 a0_0, .int .i64 a0_1, u9000_, u9001_, .slice A0_4 l0_4.length c0_4], .int .i64 a1] w fun e w' => ∃ v2_ v3_ v4_ : Value, e = .returned (.agg #[.int .i64 r1, .int .i64 r2, v2_, v3_, v4_]) ∧ Mem w0 F w' [rowR k95 95 v2_ r3, rowR k95 95 v3_ r4, row (Kd.int .i64) 3 v4_ r5, row (Kd.int .i64) 3 (.slice A0_4 l0_4.length c0_4) l0_4] := by
 have hu32 := Try.underlying32
 have HM := hM
 clear hM
 have H := h
 clear h
 unfold spec_l10Haunt.f at H
 go_enter Try.func103, Try.ntmps103
 replace H := BN H; obtain ⟨t212, A8, H⟩ := H
 replace H := GD H; obtain ⟨c10, H⟩ := H
 have LMc10 := Aside0.mk c10
 clear c10
 replace H := BLt H; obtain ⟨y215, Ny215, H⟩ := H
 replace Ny215 := Aside0.mk Ny215
 obtain ⟨Xo3, ko3, eo3⟩ := HM.rdR 0 rfl
 subst eo3
 obtain ⟨Xo4, ko4, eo4⟩ := HM.rdR 1 rfl
 subst eo4
 try go_wp2_with (first | ((with_reducible refine gate_dst (N := 2) rfl ?_); refine pB 2 32 [.int .i64 a0_0, .int .i64 a0_1, .slice Xo3 l0_2.length ko3, .slice Xo4 l0_3.length ko4, .slice A0_4 l0_4.length c0_4] HM rfl ?_; clear HM; intro gb210 w5 HM) | ((with_reducible refine gate_dst (N := 4) rfl ?_); refine pB 4 32 [.int .i64 0, .int .i64 0, .slice none 0 0, .slice none 0 0, .slice none 0 0] HM rfl ?_; clear HM; intro gb211 w6 HM; obtain ⟨hcz7_0, hcz7_1, hcz7_2, hcz7_3, hcz7_4, hfz7_0, hfz7_1, hfz7_2, hfz7_3, hfz7_4⟩ := bk5 (HM.bx 3 rfl)) | ((with_reducible refine gate_callee (f := 72) rfl ?_); refine pC (some 8) rfl #[.slice A0_4 l0_4.length c0_4, .int .i64 a1] rfl Try.func72 (spec_l08But.calls k _ _ l0_4 a1 t212 _ (HM.C 2 rfl).2.2 (HM.C 2 rfl).2.1 A8.out) ?_; rintro e w9 ⟨v213, rfl, hR⟩; refine ⟨_, rfl, ?_⟩; replace HM := HM.call hR; clear hR) | ((with_reducible refine gate_dst (N := 10) rfl ?_); refine pL 10 (Kd.int .i64) 3 [a1] [.int .i64 a1] (Reps.one (show Kd.M (Kd.int .i64) _ _ _ a1 [.int .i64 a1] from rfl) (Reps.none _ _)) HM rfl ?_; clear HM; intro v12 w11 HM; obtain ⟨Xv12, kv12, ev12⟩ := HM.rdR 6 rfl; subst ev12) | ((with_reducible refine gate_builtin (b := .append) (xs := #[.tmp 8, .tmp 10]) rfl ?_); refine pA 5 (.tmp 8) (.tmp 10) 23 3 (Kd.int .i64) v213 t212 [a1] Xv12 ([a1].length) kv12 HM rfl Try.underlying23 info3 rfl (HM.CR 6 rfl).2.2 (by have h_ := LMc10.out; simp only [List.length_singleton]; omega) ?_; clear HM; intro v216 w13 HM; replace HM := HM.nm 5 rfl Ny215.out; obtain ⟨Xo14, ko14, eo14⟩ := HM.rdR 5 rfl; subst eo14) | ((with_reducible refine gate_st (p := 12) rfl ?_); refine pS 3 12 4 [.slice Xo14 y215.length ko14] HM rfl rfl ?_; clear HM; intro w15 HM))
 replace H := BN H; obtain ⟨t218, A16, H⟩ := H
 refine RGN 6 [0, 1, 2, 3, 4, 5] (fun a0 b a w' => a = putSel a0 b [(0, 13, .pointer (some ⟨gb210, 4, none⟩)), (1, 14, .slice Xo14 y215.length ko14), (2, 15, .int .i64 (y215.length : Int)), (3, 16, .agg #[.int .i64 a0_0, .int .i64 a0_1, .slice Xo3 l0_2.length ko3, .slice Xo4 l0_3.length ko4, .slice Xo14 y215.length ko14]), (4, 17, .int .i64 t218), (5, 18, .bool (decide ((y215.length : Int) > t218)))] ∧ Mem w0 F w' [rowR k95 95 (.slice Xo3 l0_2.length ko3) l0_2, rowR k95 95 (.slice Xo4 l0_3.length ko4) l0_3, row (Kd.int .i64) 3 (.slice A0_4 l0_4.length c0_4) l0_4, box 32 gb210 [.int .i64 a0_0, .int .i64 a0_1, .slice Xo3 l0_2.length ko3, .slice Xo4 l0_3.length ko4, .slice Xo14 y215.length ko14], box 32 gb211 [.int .i64 0, .int .i64 0, .slice none 0 0, .slice none 0 0, .slice none 0 0], rowR (Kd.int .i64) 3 (.slice Xo14 y215.length ko14) y215, rowR (Kd.int .i64) 3 (.slice Xv12 [a1].length kv12) [a1]]) spec_l10Haunt.tab2 spec_l10Haunt.bits2 ?_ ?_ ?_
 ·exact ⟨PS0' rfl _, (HM.drew).pick [0, 1, 2, 3, 4, 5, 6]⟩
 ·clear HM
  refine steps_cons ?_ ?_
  ·rintro b a w ⟨ha, HM⟩ hb hon hoff
   refine ⟨_, rfl, fun K hK => ?_⟩
   have e2 := POF ha 2
   replace ha := Aside0.mk ha
   exact VL (.pointer (some ⟨gb210, 4, none⟩)) (hK.out _ _ ⟨PUT ha 0 hb, HM⟩)
  refine steps_cons ?_ ?_
  ·rintro b a w ⟨ha, HM⟩ hb hon hoff
   refine ⟨_, rfl, fun K hK => ?_⟩
   obtain ⟨hcz20_0, hcz20_1, hcz20_2, hcz20_3, hcz20_4, hfz20_0, hfz20_1, hfz20_2, hfz20_3, hfz20_4⟩ := bk5 (HM.bx 3 rfl)
   have e13 := PON ha 0 (hon 0 (by kernel_rfl))
   replace ha := Aside0.mk ha
   exact VL (.slice Xo14 y215.length ko14) (hK.out _ _ ⟨PUT ha 1 hb, HM⟩)
  refine steps_cons ?_ ?_
  ·rintro b a w ⟨ha, HM⟩ hb hon hoff
   refine ⟨_, rfl, fun K hK => ?_⟩
   have e14 := PON ha 1 (hon 1 (by kernel_rfl))
   replace ha := Aside0.mk ha
   exact VL (.int .i64 (y215.length : Int)) (hK.out _ _ ⟨PUT ha 2 hb, HM⟩)
  refine steps_cons ?_ ?_
  ·rintro b a w ⟨ha, HM⟩ hb hon hoff
   refine ⟨_, rfl, fun K hK => ?_⟩
   obtain ⟨hcz21_0, hcz21_1, hcz21_2, hcz21_3, hcz21_4, hfz21_0, hfz21_1, hfz21_2, hfz21_3, hfz21_4⟩ := bk5 (HM.bx 3 rfl)
   have e2 := POF ha 2
   replace ha := Aside0.mk ha
   exact VL (.agg #[.int .i64 a0_0, .int .i64 a0_1, .slice Xo3 l0_2.length ko3, .slice Xo4 l0_3.length ko4, .slice Xo14 y215.length ko14]) (hK.out _ _ ⟨PUT ha 3 hb, HM⟩)
  refine steps_cons ?_ ?_
  ·rintro b a w ⟨ha, HM⟩ hb hon hoff
   refine ⟨_, rfl, fun K hK => ?_⟩
   have e16 := PON ha 3 (hon 3 (by kernel_rfl))
   replace ha := Aside0.mk ha
   refine ST (eC (some 17) rfl #[.agg #[.int .i64 a0_0, .int .i64 a0_1, .slice Xo3 l0_2.length ko3, .slice Xo4 l0_3.length ko4, .slice Xo14 y215.length ko14]] rfl Try.func64 (spec_l10Ghosts.calls a0_0 a0_1 _ _ l0_2 _ _ l0_3 _ _ y215 t218 _ (HM.CR 0 rfl).2.2 (HM.CR 0 rfl).2.1 (HM.CR 1 rfl).2.2 (HM.CR 1 rfl).2.1 (HM.CR 5 rfl).2.2 (HM.CR 5 rfl).2.1 A16.out) ?_ (hargs := by (simp only [List.map_toArray, List.map_cons, List.map_nil, evc, eval_of e16]) <;> rfl))
   rintro e w22 ⟨rfl, hR⟩
   refine ⟨_, rfl, ?_⟩
   replace HM := HM.call hR
   clear hR
   exact hK.out _ _ ⟨PUT ha 4 hb, (HM).pick [0, 1, 2, 3, 4, 5, 6]⟩
  refine steps_cons ?_ ?_
  ·rintro b a w ⟨ha, HM⟩ hb hon hoff
   refine ⟨_, rfl, fun K hK => ?_⟩
   have e15 := PON ha 2 (hon 2 (by kernel_rfl))
   have e17 := PON ha 4 (hon 4 (by kernel_rfl))
   replace ha := Aside0.mk ha
   exact VL (.bool (decide ((y215.length : Int) > t218))) (hK.out _ _ ⟨PUT ha 5 hb, HM⟩)
  exact steps_nil
 rintro _ w23 ⟨rfl, HM⟩
 simp only [putSel, if_true, Act.put, List.setIfInBounds_toArray, List.set_cons_zero, List.set_cons_succ, gt_iff_lt, ge_iff_le]
 go_upto_if 18 with (fail)
 replace H := IT H; rcases H with ⟨c24, H⟩ | ⟨c24, H⟩
 ·have c24b0 : decide (t218 < (y215.length : Int)) = true := decide_eq_true c24
  clear c24
  (first | rw [c24b0] | (simp only [i64_w, i32_w]; rw [c24b0]) | skip)
  replace H := GD H; obtain ⟨c26, H⟩ := H
  have c26b0 := eq_true c26
  have c26b1 : decide (1 ≤ (y215.length : Int)) = true := decide_eq_true c26
  clear c26
  simp only [Option.some.injEq, Prod.mk.injEq] at H
  obtain ⟨rfl, rfl, rfl, rfl, rfl⟩ := H
  obtain ⟨hcz25_0, hcz25_1, hcz25_2, hcz25_3, hcz25_4, hfz25_0, hfz25_1, hfz25_2, hfz25_3, hfz25_4⟩ := bk5 (HM.bx 3 rfl)
  go_wp2_with (first | ((with_reducible refine gate_sl (t := 23) rfl ?_); refine pD 5 23 3 (Kd.int .i64) _ _ 1 y215 Xo14 ko14 HM rfl Try.underlying23 info3 rfl (fun _ _ h => Kd.Q_of_R h) (by omega) (by have h_ : (1 : Int) ≤ ((y215.length : Int) : Int) := of_decide_eq_true AS; first | exact h_ | (have e_ := (HM.CR 5 rfl).1; omega)) ?_; clear HM; intro v220 HM; obtain ⟨Xo27, ko27, eo27⟩ := HM.rd 5 rfl; subst eo27) | ((with_reducible refine gate_st (p := 22) rfl ?_); refine pS 3 22 4 [.slice Xo27 (y215.drop (1 : Int).toNat).length ko27] HM rfl rfl ?_; clear HM; intro w28 HM; obtain ⟨hcz29_0, hcz29_1, hcz29_2, hcz29_3, hcz29_4, hfz29_0, hfz29_1, hfz29_2, hfz29_3, hfz29_4⟩ := bk5 (HM.bx 3 rfl)) | ((with_reducible refine gate_st (p := 4) rfl ?_); refine pS 4 4 0 [.int .i64 a0_0, .int .i64 a0_1, .slice Xo3 l0_2.length ko3, .slice Xo4 l0_3.length ko4, .slice Xo27 (y215.drop (1 : Int).toNat).length ko27] HM rfl rfl ?_; clear HM; intro w30 HM))
  refine bodyPost_ret (results_cell_row rfl _ _ gb211 32 #[.int .i64 a0_0, .int .i64 a0_1, .slice Xo3 l0_2.length ko3, .slice Xo4 l0_3.length ko4, .slice Xo27 (y215.drop (1 : Int).toNat).length ko27] (0, 0) _ rfl (HM.bx 4 rfl) Try.underlying32 rfl (by kernel_rfl)) rfl ?_
  exact ⟨_, _, _, ER, (MD HM).pick [0, 1, 5, 2]⟩
 ·have c24b0 : decide (t218 < (y215.length : Int)) = false := decide_eq_false c24
  clear c24
  (first | rw [c24b0] | (simp only [i64_w, i32_w]; rw [c24b0]) | skip)
  simp only [Option.some.injEq, Prod.mk.injEq] at H
  obtain ⟨rfl, rfl, rfl, rfl, rfl⟩ := H
  obtain ⟨hcz31_0, hcz31_1, hcz31_2, hcz31_3, hcz31_4, hfz31_0, hfz31_1, hfz31_2, hfz31_3, hfz31_4⟩ := bk5 (HM.bx 3 rfl)
  go_wp2_with (first | ((with_reducible refine gate_st (p := 4) rfl ?_); refine pS 4 4 0 [.int .i64 a0_0, .int .i64 a0_1, .slice Xo3 l0_2.length ko3, .slice Xo4 l0_3.length ko4, .slice Xo14 y215.length ko14] HM rfl rfl ?_; clear HM; intro w32 HM; replace HM := HM.toQ 5 rfl))
  refine bodyPost_ret (results_cell_row rfl _ _ gb211 32 #[.int .i64 a0_0, .int .i64 a0_1, .slice Xo3 l0_2.length ko3, .slice Xo4 l0_3.length ko4, .slice Xo14 y215.length ko14] (0, 0) _ rfl (HM.bx 4 rfl) Try.underlying32 rfl (by kernel_rfl)) rfl ?_
  exact ⟨_, _, _, ER, (MD HM).pick [0, 1, 5, 2]⟩
def spec_EvictSmall.l0 : Nat → Int → Int → List (S95) → List (S95) → List Int → Option (Int × Int × (List (S95)) × (List (S95)) × List Int × ByteArray × Bool)
 | 0, _, _, _, _, _ => none
 | k + 1, x237000, x237001, x237002, x237003, x237004 => if (x237002.length : Int) > 0 then (if 0 < (x237002.length : Int) then ((some (([] : List (S95)) : List (S95))).bind fun y239 => (if 1 ≤ (x237002.length : Int) then ((some (x237002.drop 1 : List (S95))).bind fun y242 => (if y239.length + y242.length < 3518437208883 then ((some (y239 ++ y242 : List (S95))).bind fun y246 => (if ((rd_T95 x237002 0).f2) ≤ 1 then ((spec_Hash.f k ((rd_T95 x237002 0).f0)).bind fun t249 => ((spec_l10Haunt.f k x237000 x237001 y246 x237003 x237004 t249).bind fun bt250 => (some (bt250.1, bt250.2.1, bt250.2.2.1, bt250.2.2.2.1, bt250.2.2.2.2, (rd_T95 x237002 0).f0, true)))) else (if x237003.length < 3518437208883 then (spec_EvictSmall.l0 k x237000 x237001 y246 (x237003 ++ [(⟨(rd_T95 x237002 0).f0, (rd_T95 x237002 0).f1, 0⟩ : S95)]) x237004) else (none)))) else (none))) else (none))) else (none)) else (some (x237000, x237001, x237002, x237003, x237004, (⟨#[]⟩ : ByteArray), false))
def spec_EvictSmall.f (k : Nat) (a0_0 : Int) (a0_1 : Int) (l0_2 : List (S95)) (l0_3 : List (S95)) (l0_4 : List Int) : Option (Int × Int × (List (S95)) × (List (S95)) × List Int × ByteArray × Bool) := (spec_ThreeOk.f k a0_0 a0_1 l0_2 l0_3 l0_4).bind fun t224 => (if t224 = true then ((spec_l10Copy.f a0_0 a0_1 l0_2 l0_3 l0_4).bind fun bt225 => (spec_EvictSmall.l0 k bt225.1 bt225.2.1 bt225.2.2.1 bt225.2.2.2.1 bt225.2.2.2.2)) else (some (0, 0, ([] : List (S95)), ([] : List (S95)), ([] : List Int), (⟨#[]⟩ : ByteArray), false)))
theorem spec_EvictSmall.mono_l : ∀ k, (∀ y0 y1 y2 y3 y4, LeO (spec_EvictSmall.l0 k y0 y1 y2 y3 y4) (spec_EvictSmall.l0 (k + 1) y0 y1 y2 y3 y4))
 | 0 => fun _ _ _ _ _ r h => by simp [spec_EvictSmall.l0] at h
 | k + 1 => by
  have ih0 := spec_EvictSmall.mono_l k
  ·intro y0 y1 y2 y3 y4
   unfold spec_EvictSmall.l0
   repeat' first | (with_reducible first | exact ih0 _ _ _ _ _ | exact spec_Hash.mono _ _ | exact spec_ThreeOk.mono _ _ _ _ _ _ | exact spec_l10Haunt.mono _ _ _ _ _ _ _ | exact LeO.refl _ | exact LeO.none _ | refine LeO.ite ?_ ?_ | refine LeO.bind ?_ (fun _ => ?_)) | exact ih0 _ _ _ _ _ | exact spec_Hash.mono _ _ | exact spec_ThreeOk.mono _ _ _ _ _ _ | exact spec_l10Haunt.mono _ _ _ _ _ _ _ | exact LeO.none _ | refine LeO.ite ?_ ?_ | refine LeO.bind ?_ (fun _ => ?_)
theorem spec_EvictSmall.mono : ∀ a0 a1 a2 a3 a4 k, LeO (spec_EvictSmall.f k a0 a1 a2 a3 a4) (spec_EvictSmall.f (k + 1) a0 a1 a2 a3 a4) := by
 intro a0 a1 a2 a3 a4 k
 have ih0 := spec_EvictSmall.mono_l k
 unfold spec_EvictSmall.f
 repeat' first | (with_reducible first | exact ih0 _ _ _ _ _ | exact spec_Hash.mono _ _ | exact spec_ThreeOk.mono _ _ _ _ _ _ | exact spec_l10Haunt.mono _ _ _ _ _ _ _ | exact LeO.refl _ | exact LeO.none _ | refine LeO.ite ?_ ?_ | refine LeO.bind ?_ (fun _ => ?_)) | exact ih0 _ _ _ _ _ | exact spec_Hash.mono _ _ | exact spec_ThreeOk.mono _ _ _ _ _ _ | exact spec_l10Haunt.mono _ _ _ _ _ _ _ | exact LeO.none _ | refine LeO.ite ?_ ?_ | refine LeO.bind ?_ (fun _ => ?_)
def spec_EvictSmall.T8 : Bool × List (List Nat × List Nat) := (true, [([], []), ([], []), ([1], [1]), ([2], [2]), ([0, 3, 3], [0, 3]), ([], []), ([5], [5]), ([4, 4, 0, 1, 2, 3, 4], [4]), ([6, 7, 0, 1, 2, 3, 4, 5, 6, 7], [6]), ([8, 0, 1, 2, 3, 4, 5, 6, 7, 8], [])])
def spec_EvictSmall.B8 : List Nat := [0, 0, 2, 6, 15, 0, 32, 31, 255, 511]
theorem spec_EvictSmall.tab8 : rtab .any (opsOf Try.f92 8) = spec_EvictSmall.T8 := by kernel_rfl
theorem spec_EvictSmall.bits8 : waitsOk spec_EvictSmall.T8.2 spec_EvictSmall.B8 = true := by kernel_rfl
set_option maxHeartbeats 8000000 in
set_option maxRecDepth 100000 in
theorem spec_EvictSmall.calls (k : Nat) (a0_0 : Int) (a0_1 : Int) (A0_2 : Option Addr) (c0_2 : Nat) (l0_2 : List (S95)) (A0_3 : Option Addr) (c0_3 : Nat) (l0_3 : List (S95)) (A0_4 : Option Addr) (c0_4 : Nat) (l0_4 : List Int) (r1 : Int) (r2 : Int) (r3 : List (S95)) (r4 : List (S95)) (r5 : List Int) (r6 : ByteArray) (r7 : Bool) (w : World) (hr0_2 : Kd.C k95 w A0_2 l0_2.length l0_2) (hc0_2 : l0_2.length ≤ c0_2) (hr0_3 : Kd.C k95 w A0_3 l0_3.length l0_3) (hc0_3 : l0_3.length ≤ c0_3) (hr0_4 : Kd.C (Kd.int .i64) w A0_4 l0_4.length l0_4) (hc0_4 : l0_4.length ≤ c0_4) (h : spec_EvictSmall.f k a0_0 a0_1 l0_2 l0_3 l0_4 = some (r1, r2, r3, r4, r5, r6, r7)) :
  Calls Try.prog 92 #[.agg #[.int .i64 a0_0, .int .i64 a0_1, .slice A0_2 l0_2.length c0_2, .slice A0_3 l0_3.length c0_3, .slice A0_4 l0_4.length c0_4]] w fun e w' => ∃ v2_ v3_ v4_ : Value, e = .returned (.tuple #[.agg #[.int .i64 r1, .int .i64 r2, v2_, v3_, v4_], .string r6, .bool r7]) ∧ Mem w [] w' [rowR k95 95 v2_ r3, rowR k95 95 v3_ r4, row (Kd.int .i64) 3 v4_ r5] := by
 have hu32 := Try.underlying32
 have hu95 := Try.underlying95
 have HR0_2 := Aside0.mk hr0_2
 have HC0_2 := Aside0.mk hc0_2
 clear hr0_2 hc0_2
 have HR0_3 := Aside0.mk hr0_3
 have HC0_3 := Aside0.mk hc0_3
 clear hr0_3 hc0_3
 have HR0_4 := Aside0.mk hr0_4
 have HC0_4 := Aside0.mk hc0_4
 clear hr0_4 hc0_4
 have HM := Mem.nil w
 have H := h
 clear h
 unfold spec_EvictSmall.f at H
 go_enter Try.func92, Try.ntmps92
 replace H := BN H; obtain ⟨t224, A5, H⟩ := H
 go_upto_if 9 with (first | ((with_reducible refine gate_dst (N := 1) rfl ?_); refine pB 1 32 [.int .i64 a0_0, .int .i64 a0_1, .slice A0_2 l0_2.length c0_2, .slice A0_3 l0_3.length c0_3, .slice A0_4 l0_4.length c0_4] HM rfl ?_; clear HM; intro gb222 w2 HM) | ((with_reducible refine gate_dst (N := 2) rfl ?_); refine pB 2 32 [.int .i64 0, .int .i64 0, .slice none 0 0, .slice none 0 0, .slice none 0 0] HM rfl ?_; clear HM; intro gb223 w3 HM; obtain ⟨hcz4_0, hcz4_1, hcz4_2, hcz4_3, hcz4_4, hfz4_0, hfz4_1, hfz4_2, hfz4_3, hfz4_4⟩ := bk5 (HM.bx 0 rfl)) | ((with_reducible refine gate_callee (f := 32) rfl ?_); refine pC (some 8) rfl #[.agg #[.int .i64 a0_0, .int .i64 a0_1, .slice A0_2 l0_2.length c0_2, .slice A0_3 l0_3.length c0_3, .slice A0_4 l0_4.length c0_4]] rfl Try.func32 (spec_ThreeOk.calls k a0_0 a0_1 _ _ l0_2 _ _ l0_3 _ _ l0_4 t224 _ (HM.came HR0_2.out) HC0_2.out (HM.came HR0_3.out) HC0_3.out (HM.came HR0_4.out) HC0_4.out A5.out) ?_; rintro e w6 ⟨rfl, hR⟩; refine ⟨_, rfl, ?_⟩; replace HM := HM.call hR; clear hR))
 replace HM := nzM HM
 replace H := IB H
 rcases H with ⟨c7, H⟩ | ⟨c7, H⟩
 ·subst c7
  replace H := BN H; obtain ⟨⟨t225, t226, t227, t230, t233⟩, A9, H⟩ := H
  have H' := Aside0.mk H
  clear H
  obtain ⟨hcz8_0, hcz8_1, hcz8_2, hcz8_3, hcz8_4, hfz8_0, hfz8_1, hfz8_2, hfz8_3, hfz8_4⟩ := bk5 (HM.bx 0 rfl)
  go_wp2_with (first | ((with_reducible refine gate_callee (f := 48) rfl ?_); refine pC (some 12) rfl #[.agg #[.int .i64 a0_0, .int .i64 a0_1, .slice A0_2 l0_2.length c0_2, .slice A0_3 l0_3.length c0_3, .slice A0_4 l0_4.length c0_4]] rfl Try.func48 (spec_l10Copy.calls a0_0 a0_1 _ _ l0_2 _ _ l0_3 _ _ l0_4 t225 t226 t227 t230 t233 _ (HM.came HR0_2.out) HC0_2.out (HM.came HR0_3.out) HC0_3.out (HM.came HR0_4.out) HC0_4.out A9.out) ?_; rintro e w10 ⟨v228, v231, v234, rfl, hR⟩; refine ⟨_, rfl, ?_⟩; replace HM := HM.call hR; clear hR) | ((with_reducible refine gate_dst (N := 5) rfl ?_); refine pB 5 32 [.int .i64 0, .int .i64 0, .slice none 0 0, .slice none 0 0, .slice none 0 0] HM rfl ?_; clear HM; intro gb236 w11 HM; obtain ⟨Xo12, ko12, eo12⟩ := HM.rdR 2 rfl; subst eo12; obtain ⟨Xo13, ko13, eo13⟩ := HM.rdR 3 rfl; subst eo13; obtain ⟨Xo14, ko14, eo14⟩ := HM.rdR 4 rfl; subst eo14) | ((with_reducible refine gate_st (p := 5) rfl ?_); refine pS 5 5 0 [.int .i64 t225, .int .i64 t226, .slice Xo12 t227.length ko12, .slice Xo13 t230.length ko13, .slice Xo14 t233.length ko14] HM rfl rfl ?_; clear HM; intro w15 HM; replace HM := HM.toQ 4 rfl))
  go_loopg [] k (fun kq w' => ∃ (x224000_1 : Int) (x224001_1 : Int) (x237002_1 : List (S95)) (x237003_1 : List (S95)) (u237002 : Value) (u237003 : Value), Aside0 (spec_EvictSmall.l0 kq t225 t226 x237002_1 x237003_1 t233 = some (r1, r2, r3, r4, r5, r6, r7)) ∧ Aside0 (kq ≤ k) ∧ Mem w [] w' [rowR k95 95 u237002 x237002_1, rowR k95 95 u237003 x237003_1, row (Kd.int .i64) 3 (.slice Xo14 t233.length ko14) t233, box 32 gb222 [.int .i64 a0_0, .int .i64 a0_1, .slice A0_2 l0_2.length c0_2, .slice A0_3 l0_3.length c0_3, .slice A0_4 l0_4.length c0_4], box 32 gb223 [.int .i64 x224000_1, .int .i64 x224001_1, .slice none 0 0, .slice none 0 0, .slice none 0 0], box 32 gb236 [.int .i64 t225, .int .i64 t226, u237002, u237003, (.slice Xo14 t233.length ko14)]])
  case atStart => exact ⟨(0), (0), (t227), (t230), (.slice Xo12 t227.length ko12), (.slice Xo13 t230.length ko13), H', ⟨Nat.le_refl _⟩, (MD HM).pick [2, 3, 4, 0, 1, 5]⟩
  case round =>
   clear H' HM
   obtain ⟨x224000_1, x224001_1, x237002_1, x237003_1, u237002, u237003, HA, HK1, HM⟩ := hrel
   cases gk with
   | zero => exact absurd HA.out (by simp [spec_EvictSmall.l0])
   | succ k1 =>
    have H := HA.out
    clear HA
    simp only [spec_EvictSmall.l0] at H
    obtain ⟨hcz16_0, hcz16_1, hcz16_2, hcz16_3, hcz16_4, hfz16_0, hfz16_1, hfz16_2, hfz16_3, hfz16_4⟩ := bk5 (HM.bx 5 rfl)
    obtain ⟨Xo17, ko17, eo17⟩ := HM.rdR 0 rfl
    subst eo17
    go_upto_if 16 with (fail)
    replace H := IT H; rcases H with ⟨c18, H⟩ | ⟨c18, H⟩
    ·replace c18 : (x237002_1.length : Int) > 0 := c18
     have c18b0 : decide (0 < (x237002_1.length : Int)) = true := decide_eq_true c18
     have c18b1 : decide (0 < x237002_1.length) = true := decide_eq_true (by omega)
     have c18b9 : decide (0 < x237002_1.length) = true := decide_eq_true (by omega)
     clear c18
     (first | rw [c18b0] | rw [c18b9] | (simp only [i64_w, i32_w]; rw [c18b0]) | skip)
     replace H := GD H; obtain ⟨c19, H⟩ := H
     replace c19 : 0 < (x237002_1.length : Int) := c19
     have c19b0 : decide (0 < (x237002_1.length : Int)) = true := decide_eq_true c19
     have c19b1 : decide (0 < x237002_1.length) = true := decide_eq_true (by omega)
     have c19b9 : decide (0 < x237002_1.length) = true := decide_eq_true (by omega)
     clear c19
     replace H := BLt H; obtain ⟨y239, Ny239, H⟩ := H
     replace Ny239 := Aside0.mk Ny239
     replace H := GD H; obtain ⟨c24, H⟩ := H
     have c24b0 := eq_true c24
     have c24b1 : decide (1 ≤ (x237002_1.length : Int)) = true := decide_eq_true c24
     clear c24
     replace H := BLt H; obtain ⟨_, rfl, H⟩ := H
     replace H := GD H; obtain ⟨c26, H⟩ := H
     have LMc26 := Aside0.mk c26
     clear c26
     replace H := BLt H; obtain ⟨y246, Ny246, H⟩ := H
     replace Ny246 := Aside0.mk Ny246
     have p237 : 0 ≤ (0 : Int) := (by omega)
     have q237 : (0 : Int) < (x237002_1.length : Int) := of_decide_eq_true AS
     obtain ⟨ad237, e237, hx237_0, hx237_1, hx237_2⟩ := at_T95 (HM.CR 0 rfl).2.2 0 p237 q237
     cases e237
     have qi237 : (0 < x237002_1.length) = True := eq_true (by omega)
     (try rw [show ((0 : Int)).toNat = 0 from rfl] at hx237_0)
     (try rw [show 0 * 3 = 0 from rfl] at hx237_0)
     (try rw [Addr.add_zero'] at hx237_0)
     (try rw [show ((0 : Int)).toNat = 0 from rfl] at hx237_1)
     (try rw [show 0 * 3 = 0 from rfl] at hx237_1)
     (try rw [Addr.add_zero'] at hx237_1)
     (try rw [show ((0 : Int)).toNat = 0 from rfl] at hx237_2)
     (try rw [show 0 * 3 = 0 from rfl] at hx237_2)
     (try rw [Addr.add_zero'] at hx237_2)
     replace p237 := eq_true p237
     replace q237 := eq_true q237
     go_upto_if 29 with (first | ((with_reducible refine gate_dst (N := 6) rfl ?_); refine pB 6 95 [.string (⟨#[]⟩ : ByteArray), .string (⟨#[]⟩ : ByteArray), .int .i64 0] HM rfl ?_; clear HM; intro gb238 w20 HM) | ((with_reducible refine gate_st (p := 6) rfl ?_); refine pS 6 6 0 [.string ((rd_T95 x237002_1 0).f0), .string ((rd_T95 x237002_1 0).f1), .int .i64 ((rd_T95 x237002_1 0).f2)] HM rfl rfl ?_; clear HM; intro w21 HM) | ((with_reducible refine gate_dst (N := 21) rfl ?_); refine pL 21 k95 95 ([] : List (S95)) [] (Reps.none _ _) HM rfl ?_; clear HM; intro v240 w22 HM; replace HM := HM.nm 7 rfl Ny239.out; obtain ⟨hcz23_0, hcz23_1, hcz23_2, hcz23_3, hcz23_4, hfz23_0, hfz23_1, hfz23_2, hfz23_3, hfz23_4⟩ := bk5 (HM.bx 5 rfl)) | ((with_reducible refine gate_sl (t := 30) rfl ?_); refine pRd 30 95 k95 _ _ 1 x237002_1 (some ad237) ko17 rfl Try.underlying30 info95 (HM.CR 0 rfl).2.2 (HM.CR 0 rfl).2.1 (by omega) (of_decide_eq_true AS) ?_; intro Yx25 bx25 hYx25 hbx25; have HYx25 := Aside0.mk hYx25; have HBx25 := Aside0.mk hbx25; clear hYx25 hbx25) | ((with_reducible refine gate_builtin (b := .append) (xs := #[.tmp 21, .tmp 24]) rfl ?_); refine pA 7 (.tmp 21) (.tmp 24) 30 95 k95 v240 y239 (x237002_1.drop 1) Yx25 ((x237002_1.drop 1).length) bx25 HM rfl Try.underlying30 info95 rfl HYx25.out (by have h_ := LMc26.out; omega) ?_; clear HM; intro v247 w27 HM; replace HM := HM.nm 7 rfl Ny246.out; obtain ⟨Xo28, ko28, eo28⟩ := HM.rdR 7 rfl; subst eo28) | ((with_reducible refine gate_st (p := 26) rfl ?_); refine pS 5 26 2 [.slice Xo28 y246.length ko28] HM rfl rfl ?_; clear HM; intro w29 HM; obtain ⟨hcz30_0, hcz30_1, hcz30_2, hfz30_0, hfz30_1, hfz30_2⟩ := bk3 (HM.bx 6 rfl)))
     replace HM := nzM HM
     replace H := IT H; rcases H with ⟨c31, H⟩ | ⟨c31, H⟩
     ·have c31b0 : decide (((rd_T95 x237002_1 0).f2) ≤ 1) = true := decide_eq_true c31
      clear c31
      (first | rw [c31b0] | (simp only [i64_w, i32_w]; rw [c31b0]) | skip)
      try go_wp2
      replace H := BN H; obtain ⟨t249, A32, H⟩ := H
      replace H := BN H; obtain ⟨⟨t250, t251, t252, t255, t258⟩, A33, H⟩ := H
      obtain ⟨Xo43, ko43, eo43⟩ := HM.rdR 1 rfl
      subst eo43
      refine RGN 10 [0, 1, 2, 3, 4, 5, 6, 7, 8, 9] (fun a0 b a w' => ∃ (v253 : Value) (v256 : Value) (v259 : Value), a = putSel a0 b [(0, 30, .agg #[.int .i64 t225, .int .i64 t226, .slice Xo28 y246.length ko28, .slice Xo43 x237003_1.length ko43, .slice Xo14 t233.length ko14]), (1, 31, .pointer (some ⟨gb238, 0, none⟩)), (2, 32, .string ((rd_T95 x237002_1 0).f0)), (3, 33, .int .i64 t249), (4, 34, .agg #[.int .i64 t250, .int .i64 t251, v253, v256, v259]), (5, 35, .pointer (some ⟨gb238, 0, none⟩)), (6, 36, .string ((rd_T95 x237002_1 0).f0)), (8, 3, .string ((rd_T95 x237002_1 0).f0)), (9, 4, .bool true)] ∧ Mem w [] w' [rowR k95 95 (.slice (some ad237) x237002_1.length ko17) x237002_1, sel (b 4) (emp) (rowR k95 95 (.slice Xo43 x237003_1.length ko43) x237003_1), row (Kd.int .i64) 3 (.slice Xo14 t233.length ko14) t233, box 32 gb222 [.int .i64 a0_0, .int .i64 a0_1, .slice A0_2 l0_2.length c0_2, .slice A0_3 l0_3.length c0_3, .slice A0_4 l0_4.length c0_4], sel (b 7) (box 32 gb223 [.int .i64 t250, .int .i64 t251, v253, v256, v259]) (box 32 gb223 [.int .i64 x224000_1, .int .i64 x224001_1, .slice none 0 0, .slice none 0 0, .slice none 0 0]), box 32 gb236 [.int .i64 t225, .int .i64 t226, .slice Xo28 y246.length ko28, .slice Xo43 x237003_1.length ko43, .slice Xo14 t233.length ko14], box 95 gb238 [.string ((rd_T95 x237002_1 0).f0), .string ((rd_T95 x237002_1 0).f1), .int .i64 ((rd_T95 x237002_1 0).f2)], sel (b 4) (emp) (rowR k95 95 (.slice Xo28 y246.length ko28) y246), sel (b 4) (rowR k95 95 v253 t252) (emp), sel (b 4) (rowR k95 95 v256 t255) (emp), sel (b 4) (row (Kd.int .i64) 3 v259 t258) (emp)]) spec_EvictSmall.tab8 spec_EvictSmall.bits8 ?_ ?_ ?_
      ·exact ⟨.bool false, .bool false, .bool false, PS0' rfl _, (HM.drew.ems 3).pick [0, 1, 2, 3, 4, 5, 6, 7, 8, 9, 10]⟩
      ·clear HM
       refine steps_cons ?_ ?_
       ·rintro b a w ⟨v253, v256, v259, ha, HM⟩ hb hon hoff
        refine ⟨_, rfl, fun K hK => ?_⟩
        obtain ⟨hcz44_0, hcz44_1, hcz44_2, hcz44_3, hcz44_4, hfz44_0, hfz44_1, hfz44_2, hfz44_3, hfz44_4⟩ := bk5 (HM.bx 5 rfl)
        have e5 := POF ha 5
        replace ha := Aside0.mk ha
        exact VL (.agg #[.int .i64 t225, .int .i64 t226, .slice Xo28 y246.length ko28, .slice Xo43 x237003_1.length ko43, .slice Xo14 t233.length ko14]) (hK.out _ _ ⟨v253, v256, v259, PUT ha 0 hb, HM⟩)
       refine steps_cons ?_ ?_
       ·rintro b a w ⟨v253, v256, v259, ha, HM⟩ hb hon hoff
        refine ⟨_, rfl, fun K hK => ?_⟩
        have e6 := POF ha 6
        replace ha := Aside0.mk ha
        exact VL (.pointer (some ⟨gb238, 0, none⟩)) (hK.out _ _ ⟨v253, v256, v259, PUT ha 1 hb, HM⟩)
       refine steps_cons ?_ ?_
       ·rintro b a w ⟨v253, v256, v259, ha, HM⟩ hb hon hoff
        refine ⟨_, rfl, fun K hK => ?_⟩
        obtain ⟨hcz45_0, hcz45_1, hcz45_2, hfz45_0, hfz45_1, hfz45_2⟩ := bk3 (HM.bx 6 rfl)
        have e31 := PON ha 1 (hon 1 (by kernel_rfl))
        replace ha := Aside0.mk ha
        exact VL (.string ((rd_T95 x237002_1 0).f0)) (hK.out _ _ ⟨v253, v256, v259, PUT ha 2 hb, HM⟩)
       refine steps_cons ?_ ?_
       ·rintro b a w ⟨v253, v256, v259, ha, HM⟩ hb hon hoff
        refine ⟨_, rfl, fun K hK => ?_⟩
        have e32 := PON ha 2 (hon 2 (by kernel_rfl))
        replace ha := Aside0.mk ha
        refine ST (eC (some 33) rfl #[.string ((rd_T95 x237002_1 0).f0)] rfl Try.func71 (spec_Hash.calls k1 ((rd_T95 x237002_1 0).f0) t249 _ A32.out) ?_ (hargs := by (simp only [List.map_toArray, List.map_cons, List.map_nil, evc, eval_of e32]) <;> rfl))
        rintro e w46 ⟨rfl, hd⟩
        refine ⟨_, rfl, ?_⟩
        replace HM := HM.drawn hd
        clear hd
        exact hK.out _ _ ⟨v253, v256, v259, PUT ha 3 hb, (HM).pick [0, 1, 2, 3, 4, 5, 6, 7, 8, 9, 10]⟩
       refine steps_cons ?_ ?_
       ·rintro b a w ⟨v253, v256, v259, ha, HM⟩ hb hon hoff
        refine ⟨_, rfl, fun K hK => ?_⟩
        replace HM := HM.sF 1 rfl hb
        replace HM := HM.sF 7 rfl hb
        have e30 := PON ha 0 (hon 0 (by kernel_rfl))
        have e33 := PON ha 3 (hon 3 (by kernel_rfl))
        replace ha := Aside0.mk ha
        refine ST (eC (some 34) rfl #[.agg #[.int .i64 t225, .int .i64 t226, .slice Xo28 y246.length ko28, .slice Xo43 x237003_1.length ko43, .slice Xo14 t233.length ko14], .int .i64 t249] rfl Try.func103 (spec_l10Haunt.calls k1 t225 t226 (.slice Xo28 y246.length ko28) y246 (.slice Xo43 x237003_1.length ko43) x237003_1 Xo14 ko14 t233 t249 t250 t251 t252 t255 t258 _ _ _ (HM.focus [0, 3, 4, 5, 6, 8, 9, 10] [7, 1, 2]) A33.out) ?_ (hargs := by (simp only [List.map_toArray, List.map_cons, List.map_nil, evc, eval_of e30, eval_of e33]) <;> rfl))
        rintro e w47 ⟨v253, v256, v259, rfl, hR⟩
        refine ⟨_, rfl, ?_⟩
        replace HM := nzM hR.unfocus
        clear hR
        exact hK.out _ _ ⟨v253, v256, v259, PUT ha 4 hb, ((HM.em.em.sF 2 rfl (hoff 7 (by kernel_rfl))).iF 2 rfl (hoff 7 (by kernel_rfl))).pick [0, 12, 11, 1, 2, 3, 4, 13, 8, 9, 10]⟩
       refine steps_cons ?_ ?_
       ·rintro b a w ⟨v253, v256, v259, ha, HM⟩ hb hon hoff
        refine ⟨_, rfl, fun K hK => ?_⟩
        have e6 := POF ha 6
        replace ha := Aside0.mk ha
        exact VL (.pointer (some ⟨gb238, 0, none⟩)) (hK.out _ _ ⟨v253, v256, v259, PUT ha 5 hb, HM⟩)
       refine steps_cons ?_ ?_
       ·rintro b a w ⟨v253, v256, v259, ha, HM⟩ hb hon hoff
        refine ⟨_, rfl, fun K hK => ?_⟩
        obtain ⟨hcz48_0, hcz48_1, hcz48_2, hfz48_0, hfz48_1, hfz48_2⟩ := bk3 (HM.bx 6 rfl)
        have e35 := PON ha 5 (hon 5 (by kernel_rfl))
        replace ha := Aside0.mk ha
        exact VL (.string ((rd_T95 x237002_1 0).f0)) (hK.out _ _ ⟨v253, v256, v259, PUT ha 6 hb, HM⟩)
       refine steps_cons ?_ ?_
       ·rintro b a w ⟨v253, v256, v259, ha, HM⟩ hb hon hoff
        refine ⟨_, rfl, fun K hK => ?_⟩
        replace HM := HM.sF 4 rfl hb
        replace HM := HM.sT 8 rfl (hon 4 (by kernel_rfl))
        replace HM := HM.sT 9 rfl (hon 4 (by kernel_rfl))
        replace HM := HM.sT 10 rfl (hon 4 (by kernel_rfl))
        obtain ⟨Xo49, ko49, eo49⟩ := HM.rdR 8 rfl
        subst eo49
        obtain ⟨Xo50, ko50, eo50⟩ := HM.rdR 9 rfl
        subst eo50
        obtain ⟨Xo51, ko51, eo51⟩ := HM.rd 10 rfl
        subst eo51
        have e2 := POF ha 2
        have e34 := PON ha 4 (hon 4 (by kernel_rfl))
        replace ha := Aside0.mk ha
        refine ST (eS 4 2 0 [.int .i64 t250, .int .i64 t251, .slice Xo49 t252.length ko49, .slice Xo50 t255.length ko50, .slice Xo51 t258.length ko51] HM rfl rfl ?_ (hp := (eval_of e2)) (hx := (by rw [eval_of e34]; rfl)))
        clear HM
        intro w52 HM
        exact hK.out _ _ ⟨.slice Xo49 t252.length ko49, .slice Xo50 t255.length ko50, .slice Xo51 t258.length ko51, PUS ha, (((HM.iT 8 rfl (hon 4 (by kernel_rfl))).iT 9 rfl (hon 4 (by kernel_rfl))).iT 10 rfl (hon 4 (by kernel_rfl))).pick [0, 1, 2, 3, 4, 5, 6, 7, 8, 9, 10]⟩
       refine steps_cons ?_ ?_
       ·rintro b a w ⟨v253, v256, v259, ha, HM⟩ hb hon hoff
        refine ⟨_, rfl, fun K hK => ?_⟩
        have e36 := PON ha 6 (hon 6 (by kernel_rfl))
        replace ha := Aside0.mk ha
        exact VL (.string ((rd_T95 x237002_1 0).f0)) (hK.out _ _ ⟨v253, v256, v259, PUT ha 7 hb, HM⟩)
       refine steps_cons ?_ ?_
       ·rintro b a w ⟨v253, v256, v259, ha, HM⟩ hb hon hoff
        refine ⟨_, rfl, fun K hK => ?_⟩
        replace ha := Aside0.mk ha
        exact VL (.bool true) (hK.out _ _ ⟨v253, v256, v259, PUT ha 8 hb, HM⟩)
       exact steps_nil
      rintro _ w53 ⟨v253, v256, v259, rfl, HM⟩
      replace HM := HM.sT 1 rfl rfl
      replace HM := HM.sT 4 rfl rfl
      replace HM := HM.sT 7 rfl rfl
      replace HM := HM.sT 8 rfl rfl
      replace HM := HM.sT 9 rfl rfl
      replace HM := HM.sT 10 rfl rfl
      simp only [putSel, if_true, Act.put, List.setIfInBounds_toArray, List.set_cons_zero, List.set_cons_succ, gt_iff_lt, ge_iff_le]
      simp only [Option.some.injEq, Prod.mk.injEq] at H
      obtain ⟨rfl, rfl, rfl, rfl, rfl, rfl, rfl⟩ := H
      go_wp2
      refine bodyPost_ret (results_ctt rfl _ _ gb223 32 #[.int .i64 t250, .int .i64 t251, v253, v256, v259] (0, 0) _ rfl (HM.bx 4 rfl) Try.underlying32 rfl (by kernel_rfl)) rfl ?_
      exact ⟨_, _, _, ER, (MD HM).pick [8, 9, 10]⟩
     ·have c31b0 : decide (((rd_T95 x237002_1 0).f2) ≤ 1) = false := decide_eq_false c31
      clear c31
      (first | rw [c31b0] | (simp only [i64_w, i32_w]; rw [c31b0]) | skip)
      replace H := GD H; obtain ⟨c57, H⟩ := H
      have LMc57 := Aside0.mk c57
      clear c57
      have H' := Aside0.mk H
      clear H
      go_wp2_with (first | ((with_reducible refine gate_st (p := 37) rfl ?_); refine pS 6 37 2 [.int .i64 0] HM rfl rfl ?_; clear HM; intro w54 HM; obtain ⟨hcz55_0, hcz55_1, hcz55_2, hcz55_3, hcz55_4, hfz55_0, hfz55_1, hfz55_2, hfz55_3, hfz55_4⟩ := bk5 (HM.bx 5 rfl); obtain ⟨hcz56_0, hcz56_1, hcz56_2, hfz56_0, hfz56_1, hfz56_2⟩ := bk3 (HM.bx 6 rfl)) | ((with_reducible refine gate_dst (N := 41) rfl ?_); refine pL 41 k95 95 [(⟨(rd_T95 x237002_1 0).f0, (rd_T95 x237002_1 0).f1, 0⟩ : S95)] [.string ((rd_T95 x237002_1 0).f0), .string ((rd_T95 x237002_1 0).f1), .int .i64 0] (Reps.c3 (show Kd.M k95 _ _ _ (⟨(rd_T95 x237002_1 0).f0, (rd_T95 x237002_1 0).f1, 0⟩ : S95) [.string ((rd_T95 x237002_1 0).f0), .string ((rd_T95 x237002_1 0).f1), .int .i64 0] from (k95_mkM _ _ _ (⟨(rd_T95 x237002_1 0).f0, (rd_T95 x237002_1 0).f1, 0⟩ : S95))) (Reps.none _ _)) HM rfl ?_; clear HM; intro v59 w58 HM; obtain ⟨Xv59, kv59, ev59⟩ := HM.rdR 8 rfl; subst ev59) | ((with_reducible refine gate_builtin (b := .append) (xs := #[.tmp 39, .tmp 41]) rfl ?_); refine pA 1 (.tmp 39) (.tmp 41) 30 95 k95 u237003 x237003_1 [(⟨(rd_T95 x237002_1 0).f0, (rd_T95 x237002_1 0).f1, 0⟩ : S95)] Xv59 ([(⟨(rd_T95 x237002_1 0).f0, (rd_T95 x237002_1 0).f1, 0⟩ : S95)].length) kv59 HM rfl Try.underlying30 info95 rfl (HM.CR 8 rfl).2.2 (by have h_ := LMc57.out; simp only [List.length_singleton]; omega) ?_; clear HM; intro v262 w60 HM; obtain ⟨Xo61, ko61, eo61⟩ := HM.rdR 1 rfl; subst eo61) | ((with_reducible refine gate_st (p := 43) rfl ?_); refine pS 5 43 3 [.slice Xo61 (x237003_1 ++ [(⟨(rd_T95 x237002_1 0).f0, (rd_T95 x237002_1 0).f1, 0⟩ : S95)]).length ko61] HM rfl rfl ?_; clear HM; intro w62 HM))
      go_roundg k1
      case measure => have := HK1.out; omega
      case rel => exact ⟨(x224000_1), (x224001_1), (y246), ((x237003_1 ++ [(⟨(rd_T95 x237002_1 0).f0, (rd_T95 x237002_1 0).f1, 0⟩ : S95)])), (.slice Xo28 y246.length ko28), (.slice Xo61 (x237003_1 ++ [(⟨(rd_T95 x237002_1 0).f0, (rd_T95 x237002_1 0).f1, 0⟩ : S95)]).length ko61), H', ⟨by have := HK1.out; omega⟩, (MD HM).pick [7, 1, 2, 3, 4, 5]⟩
    ·replace c18 : ¬ ((x237002_1.length : Int) > 0) := c18
     have c18b0 : decide (0 < (x237002_1.length : Int)) = false := decide_eq_false c18
     have c18b1 : decide (0 < x237002_1.length) = false := decide_eq_false (by omega)
     have c18b9 : decide (0 < x237002_1.length) = false := decide_eq_false (by omega)
     clear c18
     (first | rw [c18b0] | rw [c18b9] | (simp only [i64_w, i32_w]; rw [c18b0]) | skip)
     simp only [Option.some.injEq, Prod.mk.injEq] at H
     obtain ⟨rfl, rfl, rfl, rfl, rfl, rfl, rfl⟩ := H
     obtain ⟨Xo63, ko63, eo63⟩ := HM.rdR 1 rfl
     subst eo63
     go_wp2_with (first | ((with_reducible refine gate_st (p := 2) rfl ?_); refine pS 4 2 0 [.int .i64 t225, .int .i64 t226, .slice Xo17 x237002_1.length ko17, .slice Xo63 x237003_1.length ko63, .slice Xo14 t233.length ko14] HM rfl rfl ?_; clear HM; intro w64 HM))
     refine bodyPost_ret (results_ctt rfl _ _ gb223 32 #[.int .i64 t225, .int .i64 t226, .slice Xo17 x237002_1.length ko17, .slice Xo63 x237003_1.length ko63, .slice Xo14 t233.length ko14] (0, 0) _ rfl (HM.bx 4 rfl) Try.underlying32 rfl (by kernel_rfl)) rfl ?_
     exact ⟨_, _, _, ER, (MD HM).pick [0, 1, 2]⟩
 ·subst c7
  simp only [Option.some.injEq, Prod.mk.injEq] at H
  obtain ⟨rfl, rfl, rfl, rfl, rfl, rfl, rfl⟩ := H
  go_wp2_with (first | ((with_reducible refine gate_st (p := 2) rfl ?_); refine pS 1 2 0 [.int .i64 0, .int .i64 0, .slice none 0 0, .slice none 0 0, .slice none 0 0] HM rfl rfl ?_; clear HM; intro w65 HM; replace HM := HM.nl k95 95; replace HM := HM.nl k95 95; replace HM := HM.nl (Kd.int .i64) 3; replace HM := HM.toQ 4 rfl))
  refine bodyPost_ret (results_ctt rfl _ _ gb223 32 #[.int .i64 0, .int .i64 0, .slice none 0 0, .slice none 0 0, .slice none 0 0] (0, 0) _ rfl (HM.bx 1 rfl) Try.underlying32 rfl (by kernel_rfl)) rfl ?_
  exact ⟨_, _, _, ER, (MD HM).pick [2, 3, 4]⟩
def spec_EvictMain.l0 : Nat → Int → Int → List (S95) → List (S95) → List Int → Option (Int × Int × (List (S95)) × (List (S95)) × List Int × ByteArray × Bool)
 | 0, _, _, _, _, _ => none
 | k + 1, x282000, x282001, x282002, x282003, x282004 => if (x282003.length : Int) > 0 then (if 0 < (x282003.length : Int) then ((some (([] : List (S95)) : List (S95))).bind fun y284 => (if 1 ≤ (x282003.length : Int) then ((some (x282003.drop 1 : List (S95))).bind fun y287 => (if y284.length + y287.length < 3518437208883 then ((some (y284 ++ y287 : List (S95))).bind fun y291 => (if ((rd_T95 x282003 0).f2) = 0 then (some (x282000, x282001, x282002, y291, x282004, (rd_T95 x282003 0).f0, true)) else (if y291.length < 3518437208883 then (spec_EvictMain.l0 k x282000 x282001 x282002 (y291 ++ [(⟨(rd_T95 x282003 0).f0, (rd_T95 x282003 0).f1, wrap64 (((rd_T95 x282003 0).f2) - 1)⟩ : S95)]) x282004) else (none)))) else (none))) else (none))) else (none)) else (some (x282000, x282001, x282002, x282003, x282004, (⟨#[]⟩ : ByteArray), false))
def spec_EvictMain.f (k : Nat) (a0_0 : Int) (a0_1 : Int) (l0_2 : List (S95)) (l0_3 : List (S95)) (l0_4 : List Int) : Option (Int × Int × (List (S95)) × (List (S95)) × List Int × ByteArray × Bool) := (spec_ThreeOk.f k a0_0 a0_1 l0_2 l0_3 l0_4).bind fun t269 => (if t269 = true then ((spec_l10Copy.f a0_0 a0_1 l0_2 l0_3 l0_4).bind fun bt270 => (spec_EvictMain.l0 k bt270.1 bt270.2.1 bt270.2.2.1 bt270.2.2.2.1 bt270.2.2.2.2)) else (some (0, 0, ([] : List (S95)), ([] : List (S95)), ([] : List Int), (⟨#[]⟩ : ByteArray), false)))
theorem spec_EvictMain.mono_l : ∀ k, (∀ y0 y1 y2 y3 y4, LeO (spec_EvictMain.l0 k y0 y1 y2 y3 y4) (spec_EvictMain.l0 (k + 1) y0 y1 y2 y3 y4))
 | 0 => fun _ _ _ _ _ r h => by simp [spec_EvictMain.l0] at h
 | k + 1 => by
  have ih0 := spec_EvictMain.mono_l k
  ·intro y0 y1 y2 y3 y4
   unfold spec_EvictMain.l0
   repeat' first | (with_reducible first | exact ih0 _ _ _ _ _ | exact spec_ThreeOk.mono _ _ _ _ _ _ | exact LeO.refl _ | exact LeO.none _ | refine LeO.ite ?_ ?_ | refine LeO.bind ?_ (fun _ => ?_)) | exact ih0 _ _ _ _ _ | exact spec_ThreeOk.mono _ _ _ _ _ _ | exact LeO.none _ | refine LeO.ite ?_ ?_ | refine LeO.bind ?_ (fun _ => ?_)
theorem spec_EvictMain.mono : ∀ a0 a1 a2 a3 a4 k, LeO (spec_EvictMain.f k a0 a1 a2 a3 a4) (spec_EvictMain.f (k + 1) a0 a1 a2 a3 a4) := by
 intro a0 a1 a2 a3 a4 k
 have ih0 := spec_EvictMain.mono_l k
 unfold spec_EvictMain.f
 repeat' first | (with_reducible first | exact ih0 _ _ _ _ _ | exact spec_ThreeOk.mono _ _ _ _ _ _ | exact LeO.refl _ | exact LeO.none _ | refine LeO.ite ?_ ?_ | refine LeO.bind ?_ (fun _ => ?_)) | exact ih0 _ _ _ _ _ | exact spec_ThreeOk.mono _ _ _ _ _ _ | exact LeO.none _ | refine LeO.ite ?_ ?_ | refine LeO.bind ?_ (fun _ => ?_)
def spec_EvictMain.T8 : Bool × List (List Nat × List Nat) := (true, [([], []), ([], []), ([1], [1]), ([0, 0], [0]), ([2, 3, 0, 1, 2, 3], [2]), ([4, 0, 1, 2, 3, 4], [])])
def spec_EvictMain.B8 : List Nat := [0, 0, 2, 1, 15, 31]
theorem spec_EvictMain.tab8 : rtab .any (opsOf Try.f93 8) = spec_EvictMain.T8 := by kernel_rfl
theorem spec_EvictMain.bits8 : waitsOk spec_EvictMain.T8.2 spec_EvictMain.B8 = true := by kernel_rfl
set_option maxHeartbeats 8000000 in
set_option maxRecDepth 100000 in
theorem spec_EvictMain.calls (k : Nat) (a0_0 : Int) (a0_1 : Int) (A0_2 : Option Addr) (c0_2 : Nat) (l0_2 : List (S95)) (A0_3 : Option Addr) (c0_3 : Nat) (l0_3 : List (S95)) (A0_4 : Option Addr) (c0_4 : Nat) (l0_4 : List Int) (r1 : Int) (r2 : Int) (r3 : List (S95)) (r4 : List (S95)) (r5 : List Int) (r6 : ByteArray) (r7 : Bool) (w : World) (hr0_2 : Kd.C k95 w A0_2 l0_2.length l0_2) (hc0_2 : l0_2.length ≤ c0_2) (hr0_3 : Kd.C k95 w A0_3 l0_3.length l0_3) (hc0_3 : l0_3.length ≤ c0_3) (hr0_4 : Kd.C (Kd.int .i64) w A0_4 l0_4.length l0_4) (hc0_4 : l0_4.length ≤ c0_4) (h : spec_EvictMain.f k a0_0 a0_1 l0_2 l0_3 l0_4 = some (r1, r2, r3, r4, r5, r6, r7)) :
  Calls Try.prog 93 #[.agg #[.int .i64 a0_0, .int .i64 a0_1, .slice A0_2 l0_2.length c0_2, .slice A0_3 l0_3.length c0_3, .slice A0_4 l0_4.length c0_4]] w fun e w' => ∃ v2_ v3_ v4_ : Value, e = .returned (.tuple #[.agg #[.int .i64 r1, .int .i64 r2, v2_, v3_, v4_], .string r6, .bool r7]) ∧ Mem w [] w' [rowR k95 95 v2_ r3, rowR k95 95 v3_ r4, rowR (Kd.int .i64) 3 v4_ r5] := by
 have hu32 := Try.underlying32
 have hu95 := Try.underlying95
 have HR0_2 := Aside0.mk hr0_2
 have HC0_2 := Aside0.mk hc0_2
 clear hr0_2 hc0_2
 have HR0_3 := Aside0.mk hr0_3
 have HC0_3 := Aside0.mk hc0_3
 clear hr0_3 hc0_3
 have HR0_4 := Aside0.mk hr0_4
 have HC0_4 := Aside0.mk hc0_4
 clear hr0_4 hc0_4
 have HM := Mem.nil w
 have H := h
 clear h
 unfold spec_EvictMain.f at H
 go_enter Try.func93, Try.ntmps93
 replace H := BN H; obtain ⟨t269, A5, H⟩ := H
 go_upto_if 9 with (first | ((with_reducible refine gate_dst (N := 1) rfl ?_); refine pB 1 32 [.int .i64 a0_0, .int .i64 a0_1, .slice A0_2 l0_2.length c0_2, .slice A0_3 l0_3.length c0_3, .slice A0_4 l0_4.length c0_4] HM rfl ?_; clear HM; intro gb267 w2 HM) | ((with_reducible refine gate_dst (N := 2) rfl ?_); refine pB 2 32 [.int .i64 0, .int .i64 0, .slice none 0 0, .slice none 0 0, .slice none 0 0] HM rfl ?_; clear HM; intro gb268 w3 HM; obtain ⟨hcz4_0, hcz4_1, hcz4_2, hcz4_3, hcz4_4, hfz4_0, hfz4_1, hfz4_2, hfz4_3, hfz4_4⟩ := bk5 (HM.bx 0 rfl)) | ((with_reducible refine gate_callee (f := 32) rfl ?_); refine pC (some 8) rfl #[.agg #[.int .i64 a0_0, .int .i64 a0_1, .slice A0_2 l0_2.length c0_2, .slice A0_3 l0_3.length c0_3, .slice A0_4 l0_4.length c0_4]] rfl Try.func32 (spec_ThreeOk.calls k a0_0 a0_1 _ _ l0_2 _ _ l0_3 _ _ l0_4 t269 _ (HM.came HR0_2.out) HC0_2.out (HM.came HR0_3.out) HC0_3.out (HM.came HR0_4.out) HC0_4.out A5.out) ?_; rintro e w6 ⟨rfl, hR⟩; refine ⟨_, rfl, ?_⟩; replace HM := HM.call hR; clear hR))
 replace HM := nzM HM
 replace H := IB H
 rcases H with ⟨c7, H⟩ | ⟨c7, H⟩
 ·subst c7
  replace H := BN H; obtain ⟨⟨t270, t271, t272, t275, t278⟩, A9, H⟩ := H
  have H' := Aside0.mk H
  clear H
  obtain ⟨hcz8_0, hcz8_1, hcz8_2, hcz8_3, hcz8_4, hfz8_0, hfz8_1, hfz8_2, hfz8_3, hfz8_4⟩ := bk5 (HM.bx 0 rfl)
  go_wp2_with (first | ((with_reducible refine gate_callee (f := 48) rfl ?_); refine pC (some 12) rfl #[.agg #[.int .i64 a0_0, .int .i64 a0_1, .slice A0_2 l0_2.length c0_2, .slice A0_3 l0_3.length c0_3, .slice A0_4 l0_4.length c0_4]] rfl Try.func48 (spec_l10Copy.calls a0_0 a0_1 _ _ l0_2 _ _ l0_3 _ _ l0_4 t270 t271 t272 t275 t278 _ (HM.came HR0_2.out) HC0_2.out (HM.came HR0_3.out) HC0_3.out (HM.came HR0_4.out) HC0_4.out A9.out) ?_; rintro e w10 ⟨v273, v276, v279, rfl, hR⟩; refine ⟨_, rfl, ?_⟩; replace HM := HM.call hR; clear hR) | ((with_reducible refine gate_dst (N := 5) rfl ?_); refine pB 5 32 [.int .i64 0, .int .i64 0, .slice none 0 0, .slice none 0 0, .slice none 0 0] HM rfl ?_; clear HM; intro gb281 w11 HM; obtain ⟨Xo12, ko12, eo12⟩ := HM.rdR 2 rfl; subst eo12; obtain ⟨Xo13, ko13, eo13⟩ := HM.rdR 3 rfl; subst eo13; obtain ⟨Xo14, ko14, eo14⟩ := HM.rdR 4 rfl; subst eo14) | ((with_reducible refine gate_st (p := 5) rfl ?_); refine pS 5 5 0 [.int .i64 t270, .int .i64 t271, .slice Xo12 t272.length ko12, .slice Xo13 t275.length ko13, .slice Xo14 t278.length ko14] HM rfl rfl ?_; clear HM; intro w15 HM))
  go_loopg [] k (fun kq w' => ∃ (x269000_1 : Int) (x269001_1 : Int) (x282003_1 : List (S95)) (u282003 : Value), Aside0 (spec_EvictMain.l0 kq t270 t271 t272 x282003_1 t278 = some (r1, r2, r3, r4, r5, r6, r7)) ∧ Aside0 (kq ≤ k) ∧ Mem w [] w' [rowR k95 95 (.slice Xo12 t272.length ko12) t272, rowR k95 95 u282003 x282003_1, rowR (Kd.int .i64) 3 (.slice Xo14 t278.length ko14) t278, box 32 gb267 [.int .i64 a0_0, .int .i64 a0_1, .slice A0_2 l0_2.length c0_2, .slice A0_3 l0_3.length c0_3, .slice A0_4 l0_4.length c0_4], box 32 gb268 [.int .i64 x269000_1, .int .i64 x269001_1, .slice none 0 0, .slice none 0 0, .slice none 0 0], box 32 gb281 [.int .i64 t270, .int .i64 t271, (.slice Xo12 t272.length ko12), u282003, (.slice Xo14 t278.length ko14)]])
  case atStart => exact ⟨(0), (0), (t275), (.slice Xo13 t275.length ko13), H', ⟨Nat.le_refl _⟩, (MD HM).pick [2, 3, 4, 0, 1, 5]⟩
  case round =>
   clear H' HM
   obtain ⟨x269000_1, x269001_1, x282003_1, u282003, HA, HK1, HM⟩ := hrel
   cases gk with
   | zero => exact absurd HA.out (by simp [spec_EvictMain.l0])
   | succ k1 =>
    have H := HA.out
    clear HA
    simp only [spec_EvictMain.l0] at H
    obtain ⟨hcz16_0, hcz16_1, hcz16_2, hcz16_3, hcz16_4, hfz16_0, hfz16_1, hfz16_2, hfz16_3, hfz16_4⟩ := bk5 (HM.bx 5 rfl)
    obtain ⟨Xo17, ko17, eo17⟩ := HM.rdR 1 rfl
    subst eo17
    go_upto_if 16 with (fail)
    replace H := IT H; rcases H with ⟨c18, H⟩ | ⟨c18, H⟩
    ·replace c18 : (x282003_1.length : Int) > 0 := c18
     have c18b0 : decide (0 < (x282003_1.length : Int)) = true := decide_eq_true c18
     have c18b1 : decide (0 < x282003_1.length) = true := decide_eq_true (by omega)
     have c18b9 : decide (0 < x282003_1.length) = true := decide_eq_true (by omega)
     clear c18
     (first | rw [c18b0] | rw [c18b9] | (simp only [i64_w, i32_w]; rw [c18b0]) | skip)
     replace H := GD H; obtain ⟨c19, H⟩ := H
     replace c19 : 0 < (x282003_1.length : Int) := c19
     have c19b0 : decide (0 < (x282003_1.length : Int)) = true := decide_eq_true c19
     have c19b1 : decide (0 < x282003_1.length) = true := decide_eq_true (by omega)
     have c19b9 : decide (0 < x282003_1.length) = true := decide_eq_true (by omega)
     clear c19
     replace H := BLt H; obtain ⟨y284, Ny284, H⟩ := H
     replace Ny284 := Aside0.mk Ny284
     replace H := GD H; obtain ⟨c24, H⟩ := H
     have c24b0 := eq_true c24
     have c24b1 : decide (1 ≤ (x282003_1.length : Int)) = true := decide_eq_true c24
     clear c24
     replace H := BLt H; obtain ⟨_, rfl, H⟩ := H
     replace H := GD H; obtain ⟨c26, H⟩ := H
     have LMc26 := Aside0.mk c26
     clear c26
     replace H := BLt H; obtain ⟨y291, Ny291, H⟩ := H
     replace Ny291 := Aside0.mk Ny291
     have p282 : 0 ≤ (0 : Int) := (by omega)
     have q282 : (0 : Int) < (x282003_1.length : Int) := of_decide_eq_true AS
     obtain ⟨ad282, e282, hx282_0, hx282_1, hx282_2⟩ := at_T95 (HM.CR 1 rfl).2.2 0 p282 q282
     cases e282
     have qi282 : (0 < x282003_1.length) = True := eq_true (by omega)
     (try rw [show ((0 : Int)).toNat = 0 from rfl] at hx282_0)
     (try rw [show 0 * 3 = 0 from rfl] at hx282_0)
     (try rw [Addr.add_zero'] at hx282_0)
     (try rw [show ((0 : Int)).toNat = 0 from rfl] at hx282_1)
     (try rw [show 0 * 3 = 0 from rfl] at hx282_1)
     (try rw [Addr.add_zero'] at hx282_1)
     (try rw [show ((0 : Int)).toNat = 0 from rfl] at hx282_2)
     (try rw [show 0 * 3 = 0 from rfl] at hx282_2)
     (try rw [Addr.add_zero'] at hx282_2)
     replace p282 := eq_true p282
     replace q282 := eq_true q282
     go_upto_if 29 with (first | ((with_reducible refine gate_dst (N := 6) rfl ?_); refine pB 6 95 [.string (⟨#[]⟩ : ByteArray), .string (⟨#[]⟩ : ByteArray), .int .i64 0] HM rfl ?_; clear HM; intro gb283 w20 HM) | ((with_reducible refine gate_st (p := 6) rfl ?_); refine pS 6 6 0 [.string ((rd_T95 x282003_1 0).f0), .string ((rd_T95 x282003_1 0).f1), .int .i64 ((rd_T95 x282003_1 0).f2)] HM rfl rfl ?_; clear HM; intro w21 HM) | ((with_reducible refine gate_dst (N := 21) rfl ?_); refine pL 21 k95 95 ([] : List (S95)) [] (Reps.none _ _) HM rfl ?_; clear HM; intro v285 w22 HM; replace HM := HM.nm 7 rfl Ny284.out; obtain ⟨hcz23_0, hcz23_1, hcz23_2, hcz23_3, hcz23_4, hfz23_0, hfz23_1, hfz23_2, hfz23_3, hfz23_4⟩ := bk5 (HM.bx 5 rfl)) | ((with_reducible refine gate_sl (t := 30) rfl ?_); refine pRd 30 95 k95 _ _ 1 x282003_1 (some ad282) ko17 rfl Try.underlying30 info95 (HM.CR 1 rfl).2.2 (HM.CR 1 rfl).2.1 (by omega) (of_decide_eq_true AS) ?_; intro Yx25 bx25 hYx25 hbx25; have HYx25 := Aside0.mk hYx25; have HBx25 := Aside0.mk hbx25; clear hYx25 hbx25) | ((with_reducible refine gate_builtin (b := .append) (xs := #[.tmp 21, .tmp 24]) rfl ?_); refine pA 7 (.tmp 21) (.tmp 24) 30 95 k95 v285 y284 (x282003_1.drop 1) Yx25 ((x282003_1.drop 1).length) bx25 HM rfl Try.underlying30 info95 rfl HYx25.out (by have h_ := LMc26.out; omega) ?_; clear HM; intro v292 w27 HM; replace HM := HM.nm 7 rfl Ny291.out; obtain ⟨Xo28, ko28, eo28⟩ := HM.rdR 7 rfl; subst eo28) | ((with_reducible refine gate_st (p := 26) rfl ?_); refine pS 5 26 3 [.slice Xo28 y291.length ko28] HM rfl rfl ?_; clear HM; intro w29 HM; obtain ⟨hcz30_0, hcz30_1, hcz30_2, hfz30_0, hfz30_1, hfz30_2⟩ := bk3 (HM.bx 6 rfl)))
     replace HM := nzM HM
     replace H := IT H; rcases H with ⟨c31, H⟩ | ⟨c31, H⟩
     ·have c31b0 : (((rd_T95 x282003_1 0).f2) == 0) = true := beq_iff_eq.mpr c31
      have c31b1 : (((rd_T95 x282003_1 0).f2) != 0) = false := bne_eq_false_iff_eq.mpr c31
      clear c31
      (first | rw [c31b0] | (simp only [i64_w, i32_w]; rw [c31b0]) | skip)
      try go_wp2
      refine RGN 6 [0, 1, 2, 3, 4, 5] (fun a0 b a w' => a = putSel a0 b [(0, 30, .agg #[.int .i64 t270, .int .i64 t271, .slice Xo12 t272.length ko12, .slice Xo28 y291.length ko28, .slice Xo14 t278.length ko14]), (1, 31, .pointer (some ⟨gb283, 0, none⟩)), (2, 32, .string ((rd_T95 x282003_1 0).f0)), (4, 3, .string ((rd_T95 x282003_1 0).f0)), (5, 4, .bool true)] ∧ Mem w [] w' [rowR k95 95 (.slice Xo12 t272.length ko12) t272, rowR k95 95 (.slice (some ad282) x282003_1.length ko17) x282003_1, rowR (Kd.int .i64) 3 (.slice Xo14 t278.length ko14) t278, box 32 gb267 [.int .i64 a0_0, .int .i64 a0_1, .slice A0_2 l0_2.length c0_2, .slice A0_3 l0_3.length c0_3, .slice A0_4 l0_4.length c0_4], sel (b 3) (box 32 gb268 [.int .i64 t270, .int .i64 t271, .slice Xo12 t272.length ko12, .slice Xo28 y291.length ko28, .slice Xo14 t278.length ko14]) (box 32 gb268 [.int .i64 x269000_1, .int .i64 x269001_1, .slice none 0 0, .slice none 0 0, .slice none 0 0]), box 32 gb281 [.int .i64 t270, .int .i64 t271, .slice Xo12 t272.length ko12, .slice Xo28 y291.length ko28, .slice Xo14 t278.length ko14], box 95 gb283 [.string ((rd_T95 x282003_1 0).f0), .string ((rd_T95 x282003_1 0).f1), .int .i64 ((rd_T95 x282003_1 0).f2)], rowR k95 95 (.slice Xo28 y291.length ko28) y291]) spec_EvictMain.tab8 spec_EvictMain.bits8 ?_ ?_ ?_
      ·exact ⟨PS0' rfl _, (HM.drew).pick [0, 1, 2, 3, 4, 5, 6, 7]⟩
      ·clear HM
       refine steps_cons ?_ ?_
       ·rintro b a w ⟨ha, HM⟩ hb hon hoff
        refine ⟨_, rfl, fun K hK => ?_⟩
        obtain ⟨hcz35_0, hcz35_1, hcz35_2, hcz35_3, hcz35_4, hfz35_0, hfz35_1, hfz35_2, hfz35_3, hfz35_4⟩ := bk5 (HM.bx 5 rfl)
        have e5 := POF ha 5
        replace ha := Aside0.mk ha
        exact VL (.agg #[.int .i64 t270, .int .i64 t271, .slice Xo12 t272.length ko12, .slice Xo28 y291.length ko28, .slice Xo14 t278.length ko14]) (hK.out _ _ ⟨PUT ha 0 hb, HM⟩)
       refine steps_cons ?_ ?_
       ·rintro b a w ⟨ha, HM⟩ hb hon hoff
        refine ⟨_, rfl, fun K hK => ?_⟩
        have e6 := POF ha 6
        replace ha := Aside0.mk ha
        exact VL (.pointer (some ⟨gb283, 0, none⟩)) (hK.out _ _ ⟨PUT ha 1 hb, HM⟩)
       refine steps_cons ?_ ?_
       ·rintro b a w ⟨ha, HM⟩ hb hon hoff
        refine ⟨_, rfl, fun K hK => ?_⟩
        obtain ⟨hcz36_0, hcz36_1, hcz36_2, hfz36_0, hfz36_1, hfz36_2⟩ := bk3 (HM.bx 6 rfl)
        have e31 := PON ha 1 (hon 1 (by kernel_rfl))
        replace ha := Aside0.mk ha
        exact VL (.string ((rd_T95 x282003_1 0).f0)) (hK.out _ _ ⟨PUT ha 2 hb, HM⟩)
       refine steps_cons ?_ ?_
       ·rintro b a w ⟨ha, HM⟩ hb hon hoff
        refine ⟨_, rfl, fun K hK => ?_⟩
        replace HM := HM.sF 4 rfl hb
        have e2 := POF ha 2
        have e30 := PON ha 0 (hon 0 (by kernel_rfl))
        replace ha := Aside0.mk ha
        refine ST (eS 4 2 0 [.int .i64 t270, .int .i64 t271, .slice Xo12 t272.length ko12, .slice Xo28 y291.length ko28, .slice Xo14 t278.length ko14] HM rfl rfl ?_ (hp := (eval_of e2)) (hx := (by rw [eval_of e30]; rfl)))
        clear HM
        intro w37 HM
        exact hK.out _ _ ⟨PUS ha, (HM).pick [0, 1, 2, 3, 4, 5, 6, 7]⟩
       refine steps_cons ?_ ?_
       ·rintro b a w ⟨ha, HM⟩ hb hon hoff
        refine ⟨_, rfl, fun K hK => ?_⟩
        have e32 := PON ha 2 (hon 2 (by kernel_rfl))
        replace ha := Aside0.mk ha
        exact VL (.string ((rd_T95 x282003_1 0).f0)) (hK.out _ _ ⟨PUT ha 3 hb, HM⟩)
       refine steps_cons ?_ ?_
       ·rintro b a w ⟨ha, HM⟩ hb hon hoff
        refine ⟨_, rfl, fun K hK => ?_⟩
        replace ha := Aside0.mk ha
        exact VL (.bool true) (hK.out _ _ ⟨PUT ha 4 hb, HM⟩)
       exact steps_nil
      rintro _ w38 ⟨rfl, HM⟩
      replace HM := HM.sT 4 rfl rfl
      simp only [putSel, if_true, Act.put, List.setIfInBounds_toArray, List.set_cons_zero, List.set_cons_succ, gt_iff_lt, ge_iff_le]
      simp only [Option.some.injEq, Prod.mk.injEq] at H
      obtain ⟨rfl, rfl, rfl, rfl, rfl, rfl, rfl⟩ := H
      go_wp2
      refine bodyPost_ret (results_ctt rfl _ _ gb268 32 #[.int .i64 t270, .int .i64 t271, .slice Xo12 t272.length ko12, .slice Xo28 y291.length ko28, .slice Xo14 t278.length ko14] (0, 0) _ rfl (HM.bx 4 rfl) Try.underlying32 rfl (by kernel_rfl)) rfl ?_
      exact ⟨_, _, _, ER, (MD HM).pick [0, 7, 2]⟩
     ·have c31b0 : (((rd_T95 x282003_1 0).f2) == 0) = false := beq_eq_false_iff_ne.mpr c31
      have c31b1 : (((rd_T95 x282003_1 0).f2) != 0) = true := bne_iff_ne.mpr c31
      (first | rw [c31b0] | (simp only [i64_w, i32_w]; rw [c31b0]) | skip)
      replace H := GD H; obtain ⟨c42, H⟩ := H
      have LMc42 := Aside0.mk c42
      clear c42
      have H' := Aside0.mk H
      clear H
      go_wp2_with (first | ((with_reducible refine gate_st (p := 36) rfl ?_); refine pS 6 36 2 [.int .i64 (wrap64 (((rd_T95 x282003_1 0).f2) - 1))] HM rfl rfl ?_; clear HM; intro w39 HM; obtain ⟨hcz40_0, hcz40_1, hcz40_2, hcz40_3, hcz40_4, hfz40_0, hfz40_1, hfz40_2, hfz40_3, hfz40_4⟩ := bk5 (HM.bx 5 rfl); obtain ⟨hcz41_0, hcz41_1, hcz41_2, hfz41_0, hfz41_1, hfz41_2⟩ := bk3 (HM.bx 6 rfl)) | ((with_reducible refine gate_dst (N := 40) rfl ?_); refine pL 40 k95 95 [(⟨(rd_T95 x282003_1 0).f0, (rd_T95 x282003_1 0).f1, wrap64 (((rd_T95 x282003_1 0).f2) - 1)⟩ : S95)] [.string ((rd_T95 x282003_1 0).f0), .string ((rd_T95 x282003_1 0).f1), .int .i64 (wrap64 (((rd_T95 x282003_1 0).f2) - 1))] (Reps.c3 (show Kd.M k95 _ _ _ (⟨(rd_T95 x282003_1 0).f0, (rd_T95 x282003_1 0).f1, wrap64 (((rd_T95 x282003_1 0).f2) - 1)⟩ : S95) [.string ((rd_T95 x282003_1 0).f0), .string ((rd_T95 x282003_1 0).f1), .int .i64 (wrap64 (((rd_T95 x282003_1 0).f2) - 1))] from (k95_mkM _ _ _ (⟨(rd_T95 x282003_1 0).f0, (rd_T95 x282003_1 0).f1, wrap64 (((rd_T95 x282003_1 0).f2) - 1)⟩ : S95))) (Reps.none _ _)) HM rfl ?_; clear HM; intro v44 w43 HM; obtain ⟨Xv44, kv44, ev44⟩ := HM.rdR 8 rfl; subst ev44) | ((with_reducible refine gate_builtin (b := .append) (xs := #[.tmp 38, .tmp 40]) rfl ?_); refine pA 7 (.tmp 38) (.tmp 40) 30 95 k95 (.slice Xo28 y291.length ko28) y291 [(⟨(rd_T95 x282003_1 0).f0, (rd_T95 x282003_1 0).f1, wrap64 (((rd_T95 x282003_1 0).f2) - 1)⟩ : S95)] Xv44 ([(⟨(rd_T95 x282003_1 0).f0, (rd_T95 x282003_1 0).f1, wrap64 (((rd_T95 x282003_1 0).f2) - 1)⟩ : S95)].length) kv44 HM rfl Try.underlying30 info95 rfl (HM.CR 8 rfl).2.2 (by have h_ := LMc42.out; simp only [List.length_singleton]; omega) ?_; clear HM; intro v295 w45 HM; obtain ⟨Xo46, ko46, eo46⟩ := HM.rdR 7 rfl; subst eo46) | ((with_reducible refine gate_st (p := 42) rfl ?_); refine pS 5 42 3 [.slice Xo46 (y291 ++ [(⟨(rd_T95 x282003_1 0).f0, (rd_T95 x282003_1 0).f1, wrap64 (((rd_T95 x282003_1 0).f2) - 1)⟩ : S95)]).length ko46] HM rfl rfl ?_; clear HM; intro w47 HM))
      go_roundg k1
      case measure => have := HK1.out; omega
      case rel => exact ⟨(x269000_1), (x269001_1), ((y291 ++ [(⟨(rd_T95 x282003_1 0).f0, (rd_T95 x282003_1 0).f1, wrap64 (((rd_T95 x282003_1 0).f2) - 1)⟩ : S95)])), (.slice Xo46 (y291 ++ [(⟨(rd_T95 x282003_1 0).f0, (rd_T95 x282003_1 0).f1, wrap64 (((rd_T95 x282003_1 0).f2) - 1)⟩ : S95)]).length ko46), H', ⟨by have := HK1.out; omega⟩, (MD HM).pick [0, 7, 2, 3, 4, 5]⟩
    ·replace c18 : ¬ ((x282003_1.length : Int) > 0) := c18
     have c18b0 : decide (0 < (x282003_1.length : Int)) = false := decide_eq_false c18
     have c18b1 : decide (0 < x282003_1.length) = false := decide_eq_false (by omega)
     have c18b9 : decide (0 < x282003_1.length) = false := decide_eq_false (by omega)
     clear c18
     (first | rw [c18b0] | rw [c18b9] | (simp only [i64_w, i32_w]; rw [c18b0]) | skip)
     simp only [Option.some.injEq, Prod.mk.injEq] at H
     obtain ⟨rfl, rfl, rfl, rfl, rfl, rfl, rfl⟩ := H
     go_wp2_with (first | ((with_reducible refine gate_st (p := 2) rfl ?_); refine pS 4 2 0 [.int .i64 t270, .int .i64 t271, .slice Xo12 t272.length ko12, .slice Xo17 x282003_1.length ko17, .slice Xo14 t278.length ko14] HM rfl rfl ?_; clear HM; intro w48 HM))
     refine bodyPost_ret (results_ctt rfl _ _ gb268 32 #[.int .i64 t270, .int .i64 t271, .slice Xo12 t272.length ko12, .slice Xo17 x282003_1.length ko17, .slice Xo14 t278.length ko14] (0, 0) _ rfl (HM.bx 4 rfl) Try.underlying32 rfl (by kernel_rfl)) rfl ?_
     exact ⟨_, _, _, ER, (MD HM).pick [0, 1, 2]⟩
 ·subst c7
  simp only [Option.some.injEq, Prod.mk.injEq] at H
  obtain ⟨rfl, rfl, rfl, rfl, rfl, rfl, rfl⟩ := H
  go_wp2_with (first | ((with_reducible refine gate_st (p := 2) rfl ?_); refine pS 1 2 0 [.int .i64 0, .int .i64 0, .slice none 0 0, .slice none 0 0, .slice none 0 0] HM rfl rfl ?_; clear HM; intro w49 HM; replace HM := HM.nl k95 95; replace HM := HM.nl k95 95; replace HM := HM.nl (Kd.int .i64) 3))
  refine bodyPost_ret (results_ctt rfl _ _ gb268 32 #[.int .i64 0, .int .i64 0, .slice none 0 0, .slice none 0 0, .slice none 0 0] (0, 0) _ rfl (HM.bx 1 rfl) Try.underlying32 rfl (by kernel_rfl)) rfl ?_
  exact ⟨_, _, _, ER, (MD HM).pick [2, 3, 4]⟩
def spec_Evict.j0 : Nat → Bool → Int → Int → List (S95) → List (S95) → List Int → Option (Int × Int × (List (S95)) × (List (S95)) × List Int × ByteArray × Bool)
 | 0, _, _, _, _, _, _ => none
 | k + 1, x23, x301000, x301001, x301002, x301003, x301004 => if x23 = true then ((spec_EvictSmall.f k x301000 x301001 x301002 x301003 x301004).bind fun bt303 => (if bt303.2.2.2.2.2.2 = true then (some (bt303.1, bt303.2.1, bt303.2.2.1, bt303.2.2.2.1, bt303.2.2.2.2.1, bt303.2.2.2.2.2.1, true)) else ((spec_EvictMain.f k bt303.1 bt303.2.1 bt303.2.2.1 bt303.2.2.2.1 bt303.2.2.2.2.1).bind fun bt317 => (some (bt317.1, bt317.2.1, bt317.2.2.1, bt317.2.2.2.1, bt317.2.2.2.2.1, bt317.2.2.2.2.2.1, bt317.2.2.2.2.2.2))))) else ((spec_EvictMain.f k x301000 x301001 x301002 x301003 x301004).bind fun bt330 => (some (bt330.1, bt330.2.1, bt330.2.2.1, bt330.2.2.2.1, bt330.2.2.2.2.1, bt330.2.2.2.2.2.1, bt330.2.2.2.2.2.2)))
def spec_Evict.f (k : Nat) (a0_0 : Int) (a0_1 : Int) (l0_2 : List (S95)) (l0_3 : List (S95)) (l0_4 : List Int) : Option (Int × Int × (List (S95)) × (List (S95)) × List Int × ByteArray × Bool) := (spec_ThreeOk.f k a0_0 a0_1 l0_2 l0_3 l0_4).bind fun t302 => (if t302 = true then (if (l0_2.length : Int) ≥ a0_1 then (spec_Evict.j0 k true a0_0 a0_1 l0_2 l0_3 l0_4) else (spec_Evict.j0 k ((l0_3.length : Int) == 0) a0_0 a0_1 l0_2 l0_3 l0_4)) else (some (0, 0, ([] : List (S95)), ([] : List (S95)), ([] : List Int), (⟨#[]⟩ : ByteArray), false)))
theorem spec_Evict.mono_l : ∀ k, (∀ y0 y1 y2 y3 y4 y5, LeO (spec_Evict.j0 k y0 y1 y2 y3 y4 y5) (spec_Evict.j0 (k + 1) y0 y1 y2 y3 y4 y5))
 | 0 => fun _ _ _ _ _ _ r h => by simp [spec_Evict.j0] at h
 | k + 1 => by
  have ih0 := spec_Evict.mono_l k
  ·intro y0 y1 y2 y3 y4 y5
   unfold spec_Evict.j0
   repeat' first | (with_reducible first | exact ih0 _ _ _ _ _ _ | exact spec_EvictMain.mono _ _ _ _ _ _ | exact spec_EvictSmall.mono _ _ _ _ _ _ | exact spec_ThreeOk.mono _ _ _ _ _ _ | exact LeO.refl _ | exact LeO.none _ | refine LeO.ite ?_ ?_ | refine LeO.bind ?_ (fun _ => ?_)) | exact ih0 _ _ _ _ _ _ | exact spec_EvictMain.mono _ _ _ _ _ _ | exact spec_EvictSmall.mono _ _ _ _ _ _ | exact spec_ThreeOk.mono _ _ _ _ _ _ | exact LeO.none _ | refine LeO.ite ?_ ?_ | refine LeO.bind ?_ (fun _ => ?_)
theorem spec_Evict.mono : ∀ a0 a1 a2 a3 a4 k, LeO (spec_Evict.f k a0 a1 a2 a3 a4) (spec_Evict.f (k + 1) a0 a1 a2 a3 a4) := by
 intro a0 a1 a2 a3 a4 k
 have ih0 := spec_Evict.mono_l k
 unfold spec_Evict.f
 repeat' first | (with_reducible first | exact ih0 _ _ _ _ _ _ | exact spec_EvictMain.mono _ _ _ _ _ _ | exact spec_EvictSmall.mono _ _ _ _ _ _ | exact spec_ThreeOk.mono _ _ _ _ _ _ | exact LeO.refl _ | exact LeO.none _ | refine LeO.ite ?_ ?_ | refine LeO.bind ?_ (fun _ => ?_)) | exact ih0 _ _ _ _ _ _ | exact spec_EvictMain.mono _ _ _ _ _ _ | exact spec_EvictSmall.mono _ _ _ _ _ _ | exact spec_ThreeOk.mono _ _ _ _ _ _ | exact LeO.none _ | refine LeO.ite ?_ ?_ | refine LeO.bind ?_ (fun _ => ?_)
set_option maxHeartbeats 8000000 in
set_option maxRecDepth 100000 in
theorem spec_Evict.calls (k : Nat) (a0_0 : Int) (a0_1 : Int) (A0_2 : Option Addr) (c0_2 : Nat) (l0_2 : List (S95)) (A0_3 : Option Addr) (c0_3 : Nat) (l0_3 : List (S95)) (A0_4 : Option Addr) (c0_4 : Nat) (l0_4 : List Int) (r1 : Int) (r2 : Int) (r3 : List (S95)) (r4 : List (S95)) (r5 : List Int) (r6 : ByteArray) (r7 : Bool) (w : World) (hr0_2 : Kd.C k95 w A0_2 l0_2.length l0_2) (hc0_2 : l0_2.length ≤ c0_2) (hr0_3 : Kd.C k95 w A0_3 l0_3.length l0_3) (hc0_3 : l0_3.length ≤ c0_3) (hr0_4 : Kd.C (Kd.int .i64) w A0_4 l0_4.length l0_4) (hc0_4 : l0_4.length ≤ c0_4) (h : spec_Evict.f k a0_0 a0_1 l0_2 l0_3 l0_4 = some (r1, r2, r3, r4, r5, r6, r7)) :
  Calls Try.prog 70 #[.agg #[.int .i64 a0_0, .int .i64 a0_1, .slice A0_2 l0_2.length c0_2, .slice A0_3 l0_3.length c0_3, .slice A0_4 l0_4.length c0_4]] w fun e w' => ∃ v2_ v3_ v4_ : Value, e = .returned (.tuple #[.agg #[.int .i64 r1, .int .i64 r2, v2_, v3_, v4_], .string r6, .bool r7]) ∧ Mem w [] w' [rowR k95 95 v2_ r3, rowR k95 95 v3_ r4, row (Kd.int .i64) 3 v4_ r5] := by
 have hu32 := Try.underlying32
 have HR0_2 := Aside0.mk hr0_2
 have HC0_2 := Aside0.mk hc0_2
 clear hr0_2 hc0_2
 have HR0_3 := Aside0.mk hr0_3
 have HC0_3 := Aside0.mk hc0_3
 clear hr0_3 hc0_3
 have HR0_4 := Aside0.mk hr0_4
 have HC0_4 := Aside0.mk hc0_4
 clear hr0_4 hc0_4
 have HM := Mem.nil w
 have H := h
 clear h
 unfold spec_Evict.f at H
 go_enter Try.func70, Try.ntmps70
 replace H := BN H; obtain ⟨t302, A5, H⟩ := H
 go_upto_if 10 with (first | ((with_reducible refine gate_dst (N := 1) rfl ?_); refine pB 1 32 [.int .i64 a0_0, .int .i64 a0_1, .slice A0_2 l0_2.length c0_2, .slice A0_3 l0_3.length c0_3, .slice A0_4 l0_4.length c0_4] HM rfl ?_; clear HM; intro gb300 w2 HM) | ((with_reducible refine gate_dst (N := 2) rfl ?_); refine pB 2 32 [.int .i64 0, .int .i64 0, .slice none 0 0, .slice none 0 0, .slice none 0 0] HM rfl ?_; clear HM; intro gb301 w3 HM; obtain ⟨hcz4_0, hcz4_1, hcz4_2, hcz4_3, hcz4_4, hfz4_0, hfz4_1, hfz4_2, hfz4_3, hfz4_4⟩ := bk5 (HM.bx 0 rfl)) | ((with_reducible refine gate_callee (f := 32) rfl ?_); refine pC (some 9) rfl #[.agg #[.int .i64 a0_0, .int .i64 a0_1, .slice A0_2 l0_2.length c0_2, .slice A0_3 l0_3.length c0_3, .slice A0_4 l0_4.length c0_4]] rfl Try.func32 (spec_ThreeOk.calls k a0_0 a0_1 _ _ l0_2 _ _ l0_3 _ _ l0_4 t302 _ (HM.came HR0_2.out) HC0_2.out (HM.came HR0_3.out) HC0_3.out (HM.came HR0_4.out) HC0_4.out A5.out) ?_; rintro e w6 ⟨rfl, hR⟩; refine ⟨_, rfl, ?_⟩; replace HM := HM.call hR; clear hR))
 replace HM := nzM HM
 replace H := IB H
 rcases H with ⟨c7, H⟩ | ⟨c7, H⟩
 ·subst c7
  have HC8 := Aside0.mk H
  clear H
  go_upto_region 3 with (fail)
  go_cut [23] (fun v23 wc => ∃ (kq : Nat) (x23_7 : Bool), v23 = .bool x23_7 ∧ Aside0 (spec_Evict.j0 kq x23_7 a0_0 a0_1 l0_2 l0_3 l0_4 = some (r1, r2, r3, r4, r5, r6, r7)) ∧ Aside0 (kq ≤ k) ∧ Mem w [] wc [box 32 gb300 [.int .i64 a0_0, .int .i64 a0_1, .slice A0_2 l0_2.length c0_2, .slice A0_3 l0_3.length c0_3, .slice A0_4 l0_4.length c0_4], box 32 gb301 [.int .i64 0, .int .i64 0, .slice none 0 0, .slice none 0 0, .slice none 0 0]])
  case first =>
   have H := HC8.out
   clear HC8
   replace H := IT H; rcases H with ⟨c10, H⟩ | ⟨c10, H⟩
   ·have c10b0 : decide (a0_1 ≤ (l0_2.length : Int)) = true := decide_eq_true c10
    clear c10
    have H' := Aside0.mk H
    clear H
    obtain ⟨hcz9_0, hcz9_1, hcz9_2, hcz9_3, hcz9_4, hfz9_0, hfz9_1, hfz9_2, hfz9_3, hfz9_4⟩ := bk5 (HM.bx 0 rfl)
    go_wp2
    go_meet
    case rel => exact ⟨_, (true), RS, H', ⟨by first | omega | exact Nat.le_refl _⟩, (MD HM).pick [0, 1]⟩
   ·have c10b0 : decide (a0_1 ≤ (l0_2.length : Int)) = false := decide_eq_false c10
    clear c10
    have H' := Aside0.mk H
    clear H
    obtain ⟨hcz9_0, hcz9_1, hcz9_2, hcz9_3, hcz9_4, hfz9_0, hfz9_1, hfz9_2, hfz9_3, hfz9_4⟩ := bk5 (HM.bx 0 rfl)
    go_wp2
    go_meet
    case rel => exact ⟨_, (((l0_3.length : Int) == 0)), RS, H', ⟨by first | omega | exact Nat.le_refl _⟩, (MD HM).pick [0, 1]⟩
  case rest =>
   clear HC8 HM
   obtain ⟨kq, x23_7, rfl, HA, HJ7, HM⟩ := hcut
   cases kq with
   | zero => exact absurd HA.out (by simp [spec_Evict.j0])
   | succ kj7 =>
    have H := HA.out
    clear HA
    simp only [spec_Evict.j0] at H
    go_upto_if 23 with (fail)
    replace H := IB H
    rcases H with ⟨c11, H⟩ | ⟨c11, H⟩
    ·subst c11
     replace H := BN H; obtain ⟨⟨t303, t304, t305, t308, t311, t314, t315⟩, A13, H⟩ := H
     obtain ⟨hcz12_0, hcz12_1, hcz12_2, hcz12_3, hcz12_4, hfz12_0, hfz12_1, hfz12_2, hfz12_3, hfz12_4⟩ := bk5 (HM.bx 0 rfl)
     go_upto_if 30 with (first | ((with_reducible refine gate_callee (f := 92) rfl ?_); refine pC (some 26) rfl #[.agg #[.int .i64 a0_0, .int .i64 a0_1, .slice A0_2 l0_2.length c0_2, .slice A0_3 l0_3.length c0_3, .slice A0_4 l0_4.length c0_4]] rfl Try.func92 (spec_EvictSmall.calls kj7 a0_0 a0_1 _ _ l0_2 _ _ l0_3 _ _ l0_4 t303 t304 t305 t308 t311 t314 t315 _ (HM.came HR0_2.out) HC0_2.out (HM.came HR0_3.out) HC0_3.out (HM.came HR0_4.out) HC0_4.out A13.out) ?_; rintro e w14 ⟨v306, v309, v312, rfl, hR⟩; refine ⟨_, rfl, ?_⟩; replace HM := HM.call hR; clear hR) | ((with_reducible refine gate_dst (N := 5) rfl ?_); refine pB 5 32 [.int .i64 0, .int .i64 0, .slice none 0 0, .slice none 0 0, .slice none 0 0] HM rfl ?_; clear HM; intro gb316 w15 HM; obtain ⟨Xo16, ko16, eo16⟩ := HM.rdR 2 rfl; subst eo16; obtain ⟨Xo17, ko17, eo17⟩ := HM.rdR 3 rfl; subst eo17; obtain ⟨Xo18, ko18, eo18⟩ := HM.rd 4 rfl; subst eo18) | ((with_reducible refine gate_st (p := 5) rfl ?_); refine pS 5 5 0 [.int .i64 t303, .int .i64 t304, .slice Xo16 t305.length ko16, .slice Xo17 t308.length ko17, .slice Xo18 t311.length ko18] HM rfl rfl ?_; clear HM; intro w19 HM))
     replace HM := nzM HM
     replace H := IB H
     rcases H with ⟨c20, H⟩ | ⟨c20, H⟩
     ·subst c20
      simp only [Option.some.injEq, Prod.mk.injEq] at H
      obtain ⟨rfl, rfl, rfl, rfl, rfl, rfl, rfl⟩ := H
      obtain ⟨hcz21_0, hcz21_1, hcz21_2, hcz21_3, hcz21_4, hfz21_0, hfz21_1, hfz21_2, hfz21_3, hfz21_4⟩ := bk5 (HM.bx 5 rfl)
      go_wp2_with (first | ((with_reducible refine gate_st (p := 2) rfl ?_); refine pS 1 2 0 [.int .i64 t303, .int .i64 t304, .slice Xo16 t305.length ko16, .slice Xo17 t308.length ko17, .slice Xo18 t311.length ko18] HM rfl rfl ?_; clear HM; intro w22 HM))
      refine bodyPost_ret (results_ctt rfl _ _ gb301 32 #[.int .i64 t303, .int .i64 t304, .slice Xo16 t305.length ko16, .slice Xo17 t308.length ko17, .slice Xo18 t311.length ko18] (0, 0) _ rfl (HM.bx 1 rfl) Try.underlying32 rfl (by kernel_rfl)) rfl ?_
      exact ⟨_, _, _, ER, (MD HM).pick [2, 3, 4]⟩
     ·subst c20
      replace H := BN H; obtain ⟨⟨t317, t318, t319, t322, t325, t328, t329⟩, A24, H⟩ := H
      simp only [Option.some.injEq, Prod.mk.injEq] at H
      obtain ⟨rfl, rfl, rfl, rfl, rfl, rfl, rfl⟩ := H
      obtain ⟨hcz23_0, hcz23_1, hcz23_2, hcz23_3, hcz23_4, hfz23_0, hfz23_1, hfz23_2, hfz23_3, hfz23_4⟩ := bk5 (HM.bx 5 rfl)
      go_wp2_with (first | ((with_reducible refine gate_callee (f := 93) rfl ?_); refine pC (some 34) rfl #[.agg #[.int .i64 t303, .int .i64 t304, .slice Xo16 t305.length ko16, .slice Xo17 t308.length ko17, .slice Xo18 t311.length ko18]] rfl Try.func93 (spec_EvictMain.calls kj7 t303 t304 _ _ t305 _ _ t308 _ _ t311 t317 t318 t319 t322 t325 t328 t329 _ (HM.CR 2 rfl).2.2 (HM.CR 2 rfl).2.1 (HM.CR 3 rfl).2.2 (HM.CR 3 rfl).2.1 (HM.C 4 rfl).2.2 (HM.C 4 rfl).2.1 A24.out) ?_; rintro e w25 ⟨v320, v323, v326, rfl, hR⟩; refine ⟨_, rfl, ?_⟩; replace HM := HM.call hR; clear hR; obtain ⟨Xo26, ko26, eo26⟩ := HM.rdR 6 rfl; subst eo26; obtain ⟨Xo27, ko27, eo27⟩ := HM.rdR 7 rfl; subst eo27; obtain ⟨Xo28, ko28, eo28⟩ := HM.rdR 8 rfl; subst eo28) | ((with_reducible refine gate_st (p := 2) rfl ?_); refine pS 1 2 0 [.int .i64 t317, .int .i64 t318, .slice Xo26 t319.length ko26, .slice Xo27 t322.length ko27, .slice Xo28 t325.length ko28] HM rfl rfl ?_; clear HM; intro w29 HM; replace HM := HM.toQ 8 rfl))
      refine bodyPost_ret (results_ctt rfl _ _ gb301 32 #[.int .i64 t317, .int .i64 t318, .slice Xo26 t319.length ko26, .slice Xo27 t322.length ko27, .slice Xo28 t325.length ko28] (0, 0) _ rfl (HM.bx 1 rfl) Try.underlying32 rfl (by kernel_rfl)) rfl ?_
      exact ⟨_, _, _, ER, (MD HM).pick [6, 7, 8]⟩
    ·subst c11
     replace H := BN H; obtain ⟨⟨t330, t331, t332, t335, t338, t341, t342⟩, A31, H⟩ := H
     simp only [Option.some.injEq, Prod.mk.injEq] at H
     obtain ⟨rfl, rfl, rfl, rfl, rfl, rfl, rfl⟩ := H
     obtain ⟨hcz30_0, hcz30_1, hcz30_2, hcz30_3, hcz30_4, hfz30_0, hfz30_1, hfz30_2, hfz30_3, hfz30_4⟩ := bk5 (HM.bx 0 rfl)
     go_wp2_with (first | ((with_reducible refine gate_callee (f := 93) rfl ?_); refine pC (some 39) rfl #[.agg #[.int .i64 a0_0, .int .i64 a0_1, .slice A0_2 l0_2.length c0_2, .slice A0_3 l0_3.length c0_3, .slice A0_4 l0_4.length c0_4]] rfl Try.func93 (spec_EvictMain.calls kj7 a0_0 a0_1 _ _ l0_2 _ _ l0_3 _ _ l0_4 t330 t331 t332 t335 t338 t341 t342 _ (HM.came HR0_2.out) HC0_2.out (HM.came HR0_3.out) HC0_3.out (HM.came HR0_4.out) HC0_4.out A31.out) ?_; rintro e w32 ⟨v333, v336, v339, rfl, hR⟩; refine ⟨_, rfl, ?_⟩; replace HM := HM.call hR; clear hR; obtain ⟨Xo33, ko33, eo33⟩ := HM.rdR 2 rfl; subst eo33; obtain ⟨Xo34, ko34, eo34⟩ := HM.rdR 3 rfl; subst eo34; obtain ⟨Xo35, ko35, eo35⟩ := HM.rdR 4 rfl; subst eo35) | ((with_reducible refine gate_st (p := 2) rfl ?_); refine pS 1 2 0 [.int .i64 t330, .int .i64 t331, .slice Xo33 t332.length ko33, .slice Xo34 t335.length ko34, .slice Xo35 t338.length ko35] HM rfl rfl ?_; clear HM; intro w36 HM; replace HM := HM.toQ 4 rfl))
     refine bodyPost_ret (results_ctt rfl _ _ gb301 32 #[.int .i64 t330, .int .i64 t331, .slice Xo33 t332.length ko33, .slice Xo34 t335.length ko34, .slice Xo35 t338.length ko35] (0, 0) _ rfl (HM.bx 1 rfl) Try.underlying32 rfl (by kernel_rfl)) rfl ?_
     exact ⟨_, _, _, ER, (MD HM).pick [2, 3, 4]⟩
 ·subst c7
  simp only [Option.some.injEq, Prod.mk.injEq] at H
  obtain ⟨rfl, rfl, rfl, rfl, rfl, rfl, rfl⟩ := H
  go_wp2_with (first | ((with_reducible refine gate_st (p := 2) rfl ?_); refine pS 1 2 0 [.int .i64 0, .int .i64 0, .slice none 0 0, .slice none 0 0, .slice none 0 0] HM rfl rfl ?_; clear HM; intro w37 HM; replace HM := HM.nl k95 95; replace HM := HM.nl k95 95; replace HM := HM.nl (Kd.int .i64) 3; replace HM := HM.toQ 4 rfl))
  refine bodyPost_ret (results_ctt rfl _ _ gb301 32 #[.int .i64 0, .int .i64 0, .slice none 0 0, .slice none 0 0, .slice none 0 0] (0, 0) _ rfl (HM.bx 1 rfl) Try.underlying32 rfl (by kernel_rfl)) rfl ?_
  exact ⟨_, _, _, ER, (MD HM).pick [2, 3, 4]⟩
mutual
def spec_Put.j0 : Nat → ByteArray → ByteArray → Bool → Int → Int → List (S95) → List (S95) → List Int → Option (Int × Int × (List (S95)) × (List (S95)) × List Int × List ByteArray × Bool)
 | 0, _, _, _, _, _, _, _, _ => none
 | k + 1, x1, x2, x26, x347000, x347001, x347002, x347003, x347004 => if x26 = true then (some (0, 0, ([] : List (S95)), ([] : List (S95)), ([] : List Int), ([] : List ByteArray), false)) else ((spec_l10Copy.f x347000 x347001 x347002 x347003 x347004).bind fun bt350 => ((spec_l10Touch.f k bt350.1 bt350.2.1 bt350.2.2.1 bt350.2.2.2.1 bt350.2.2.2.2 x1 true x2).bind fun bt361 => (if bt361.2.2.2.2.2.2 = true then (some (bt361.1, bt361.2.1, bt361.2.2.1, bt361.2.2.2.1, bt361.2.2.2.2.1, ([] : List ByteArray), true)) else (spec_Put.l0 k x1 x2 (([] : List ByteArray)) bt361.1 bt361.2.1 bt361.2.2.1 bt361.2.2.2.1 bt361.2.2.2.2.1))))
def spec_Put.l0 : Nat → ByteArray → ByteArray → List ByteArray → Int → Int → List (S95) → List (S95) → List Int → Option (Int × Int × (List (S95)) × (List (S95)) × List Int × List ByteArray × Bool)
 | 0, _, _, _, _, _, _, _, _ => none
 | k + 1, x1, x2, x12, x375000, x375001, x375002, x375003, x375004 => if (wrap64 ((x375002.length : Int) + (x375003.length : Int))) ≥ x375000 then ((spec_Evict.f k x375000 x375001 x375002 x375003 x375004).bind fun bt378 => (if x12.length < 8796093022208 then (spec_Put.l0 k x1 x2 (x12 ++ [bt378.2.2.2.2.2.1]) bt378.1 bt378.2.1 bt378.2.2.1 bt378.2.2.2.1 bt378.2.2.2.2.1) else (none))) else ((spec_Hash.f k x1).bind fun t396 => ((spec_l03Has.f k x375004 t396).bind fun t397 => (if t397 = true then ((spec_Hash.f k x1).bind fun t398 => ((spec_l08But.f k x375004 t398).bind fun t399 => (if x375003.length < 3518437208883 then (some (x375000, x375001, x375002, (x375003 ++ [(⟨x1, x2, 0⟩ : S95)]), t399, x12, true)) else (none)))) else (if x375002.length < 3518437208883 then (some (x375000, x375001, (x375002 ++ [(⟨x1, x2, 0⟩ : S95)]), x375003, x375004, x12, true)) else (none)))))
end
def spec_Put.f (k : Nat) (a0_0 : Int) (a0_1 : Int) (l0_2 : List (S95)) (l0_3 : List (S95)) (l0_4 : List Int) (a1 : ByteArray) (a2 : ByteArray) : Option (Int × Int × (List (S95)) × (List (S95)) × List Int × List ByteArray × Bool) := (spec_ThreeOk.f k a0_0 a0_1 l0_2 l0_3 l0_4).bind fun t348 => (if t348 = true then ((spec_ItemOk.f k a1 a2 0).bind fun t349 => (spec_Put.j0 k a1 a2 (!t349) a0_0 a0_1 l0_2 l0_3 l0_4)) else (spec_Put.j0 k a1 a2 true a0_0 a0_1 l0_2 l0_3 l0_4))
theorem spec_Put.mono_l : ∀ k, (∀ y0 y1 y2 y3 y4 y5 y6 y7, LeO (spec_Put.j0 k y0 y1 y2 y3 y4 y5 y6 y7) (spec_Put.j0 (k + 1) y0 y1 y2 y3 y4 y5 y6 y7)) ∧ (∀ y0 y1 y2 y3 y4 y5 y6 y7, LeO (spec_Put.l0 k y0 y1 y2 y3 y4 y5 y6 y7) (spec_Put.l0 (k + 1) y0 y1 y2 y3 y4 y5 y6 y7))
 | 0 => ⟨fun _ _ _ _ _ _ _ _ r h => by simp [spec_Put.j0] at h, fun _ _ _ _ _ _ _ _ r h => by simp [spec_Put.l0] at h⟩
 | k + 1 => by
  obtain ⟨ih0, ih1⟩ := spec_Put.mono_l k
  refine ⟨?_, ?_⟩
  ·intro y0 y1 y2 y3 y4 y5 y6 y7
   unfold spec_Put.j0
   repeat' first | (with_reducible first | exact ih0 _ _ _ _ _ _ _ _ | exact ih1 _ _ _ _ _ _ _ _ | exact spec_Evict.mono _ _ _ _ _ _ | exact spec_Hash.mono _ _ | exact spec_ItemOk.mono _ _ _ _ | exact spec_ThreeOk.mono _ _ _ _ _ _ | exact spec_l03Has.mono _ _ _ | exact spec_l08But.mono _ _ _ | exact spec_l10Touch.mono _ _ _ _ _ _ _ _ _ | exact LeO.refl _ | exact LeO.none _ | refine LeO.ite ?_ ?_ | refine LeO.bind ?_ (fun _ => ?_)) | exact ih0 _ _ _ _ _ _ _ _ | exact ih1 _ _ _ _ _ _ _ _ | exact spec_Evict.mono _ _ _ _ _ _ | exact spec_Hash.mono _ _ | exact spec_ItemOk.mono _ _ _ _ | exact spec_ThreeOk.mono _ _ _ _ _ _ | exact spec_l03Has.mono _ _ _ | exact spec_l08But.mono _ _ _ | exact spec_l10Touch.mono _ _ _ _ _ _ _ _ _ | exact LeO.none _ | refine LeO.ite ?_ ?_ | refine LeO.bind ?_ (fun _ => ?_)
  ·intro y0 y1 y2 y3 y4 y5 y6 y7
   unfold spec_Put.l0
   repeat' first | (with_reducible first | exact ih0 _ _ _ _ _ _ _ _ | exact ih1 _ _ _ _ _ _ _ _ | exact spec_Evict.mono _ _ _ _ _ _ | exact spec_Hash.mono _ _ | exact spec_ItemOk.mono _ _ _ _ | exact spec_ThreeOk.mono _ _ _ _ _ _ | exact spec_l03Has.mono _ _ _ | exact spec_l08But.mono _ _ _ | exact spec_l10Touch.mono _ _ _ _ _ _ _ _ _ | exact LeO.refl _ | exact LeO.none _ | refine LeO.ite ?_ ?_ | refine LeO.bind ?_ (fun _ => ?_)) | exact ih0 _ _ _ _ _ _ _ _ | exact ih1 _ _ _ _ _ _ _ _ | exact spec_Evict.mono _ _ _ _ _ _ | exact spec_Hash.mono _ _ | exact spec_ItemOk.mono _ _ _ _ | exact spec_ThreeOk.mono _ _ _ _ _ _ | exact spec_l03Has.mono _ _ _ | exact spec_l08But.mono _ _ _ | exact spec_l10Touch.mono _ _ _ _ _ _ _ _ _ | exact LeO.none _ | refine LeO.ite ?_ ?_ | refine LeO.bind ?_ (fun _ => ?_)
theorem spec_Put.mono : ∀ a0 a1 a2 a3 a4 a5 a6 k, LeO (spec_Put.f k a0 a1 a2 a3 a4 a5 a6) (spec_Put.f (k + 1) a0 a1 a2 a3 a4 a5 a6) := by
 intro a0 a1 a2 a3 a4 a5 a6 k
 obtain ⟨ih0, ih1⟩ := spec_Put.mono_l k
 unfold spec_Put.f
 repeat' first | (with_reducible first | exact ih0 _ _ _ _ _ _ _ _ | exact ih1 _ _ _ _ _ _ _ _ | exact spec_Evict.mono _ _ _ _ _ _ | exact spec_Hash.mono _ _ | exact spec_ItemOk.mono _ _ _ _ | exact spec_ThreeOk.mono _ _ _ _ _ _ | exact spec_l03Has.mono _ _ _ | exact spec_l08But.mono _ _ _ | exact spec_l10Touch.mono _ _ _ _ _ _ _ _ _ | exact LeO.refl _ | exact LeO.none _ | refine LeO.ite ?_ ?_ | refine LeO.bind ?_ (fun _ => ?_)) | exact ih0 _ _ _ _ _ _ _ _ | exact ih1 _ _ _ _ _ _ _ _ | exact spec_Evict.mono _ _ _ _ _ _ | exact spec_Hash.mono _ _ | exact spec_ItemOk.mono _ _ _ _ | exact spec_ThreeOk.mono _ _ _ _ _ _ | exact spec_l03Has.mono _ _ _ | exact spec_l08But.mono _ _ _ | exact spec_l10Touch.mono _ _ _ _ _ _ _ _ _ | exact LeO.none _ | refine LeO.ite ?_ ?_ | refine LeO.bind ?_ (fun _ => ?_)
def spec_Put.T12 : Bool × List (List Nat × List Nat) := (true, [([], []), ([0], [0]), ([], []), ([2], [2]), ([1, 3, 3], [1, 3])])
def spec_Put.B12 : List Nat := [0, 1, 0, 4, 15]
theorem spec_Put.tab12 : rtab .any (opsOf Try.f35 12) = spec_Put.T12 := by kernel_rfl
theorem spec_Put.bits12 : waitsOk spec_Put.T12.2 spec_Put.B12 = true := by kernel_rfl
def spec_Put.T13 : Bool × List (List Nat × List Nat) := (true, [([], []), ([0], [0]), ([], []), ([2], [2]), ([1, 3, 3], [1, 3]), ([0, 1, 2, 3, 4], []), ([5, 4, 4, 0, 1, 2, 3, 4], [4, 5])])
def spec_Put.B13 : List Nat := [0, 1, 0, 4, 15, 31, 63]
theorem spec_Put.tab13 : rtab .any (opsOf Try.f35 13) = spec_Put.T13 := by kernel_rfl
theorem spec_Put.bits13 : waitsOk spec_Put.T13.2 spec_Put.B13 = true := by kernel_rfl
set_option maxHeartbeats 8000000 in
set_option maxRecDepth 100000 in
theorem spec_Put.calls (k : Nat) (a0_0 : Int) (a0_1 : Int) (A0_2 : Option Addr) (c0_2 : Nat) (l0_2 : List (S95)) (A0_3 : Option Addr) (c0_3 : Nat) (l0_3 : List (S95)) (A0_4 : Option Addr) (c0_4 : Nat) (l0_4 : List Int) (a1 : ByteArray) (a2 : ByteArray) (r1 : Int) (r2 : Int) (r3 : List (S95)) (r4 : List (S95)) (r5 : List Int) (r6 : List ByteArray) (r7 : Bool) (w : World) (hr0_2 : Kd.C k95 w A0_2 l0_2.length l0_2) (hc0_2 : l0_2.length ≤ c0_2) (hr0_3 : Kd.C k95 w A0_3 l0_3.length l0_3) (hc0_3 : l0_3.length ≤ c0_3) (hr0_4 : Kd.C (Kd.int .i64) w A0_4 l0_4.length l0_4) (hc0_4 : l0_4.length ≤ c0_4) (h : spec_Put.f k a0_0 a0_1 l0_2 l0_3 l0_4 a1 a2 = some (r1, r2, r3, r4, r5, r6, r7)) :
  Calls Try.prog 35 #[.agg #[.int .i64 a0_0, .int .i64 a0_1, .slice A0_2 l0_2.length c0_2, .slice A0_3 l0_3.length c0_3, .slice A0_4 l0_4.length c0_4], .string a1, .string a2] w fun e w' => ∃ v2_ v3_ v4_ v5_ : Value, e = .returned (.tuple #[.agg #[.int .i64 r1, .int .i64 r2, v2_, v3_, v4_], v5_, .bool r7]) ∧ Mem w [] w' [rowR k95 95 v2_ r3, rowR k95 95 v3_ r4, row (Kd.int .i64) 3 v4_ r5, rowR Kd.string 9 v5_ r6] := by
 have hu32 := Try.underlying32
 have hu95 := Try.underlying95
 have HR0_2 := Aside0.mk hr0_2
 have HC0_2 := Aside0.mk hc0_2
 clear hr0_2 hc0_2
 have HR0_3 := Aside0.mk hr0_3
 have HC0_3 := Aside0.mk hc0_3
 clear hr0_3 hc0_3
 have HR0_4 := Aside0.mk hr0_4
 have HC0_4 := Aside0.mk hc0_4
 clear hr0_4 hc0_4
 have HM := Mem.nil w
 have H := h
 clear h
 unfold spec_Put.f at H
 go_enter Try.func35, Try.ntmps35
 have HC6 := Aside0.mk H
 clear H
 go_upto_region 1 with (first | ((with_reducible refine gate_dst (N := 3) rfl ?_); refine pB 3 32 [.int .i64 a0_0, .int .i64 a0_1, .slice A0_2 l0_2.length c0_2, .slice A0_3 l0_3.length c0_3, .slice A0_4 l0_4.length c0_4] HM rfl ?_; clear HM; intro gb346 w4 HM) | ((with_reducible refine gate_dst (N := 6) rfl ?_); refine pB 6 32 [.int .i64 0, .int .i64 0, .slice none 0 0, .slice none 0 0, .slice none 0 0] HM rfl ?_; clear HM; intro gb347 w5 HM))
 replace HM := nzM HM
 go_cut [26] (fun v26 wc => ∃ (kq : Nat) (x26_5 : Bool), v26 = .bool x26_5 ∧ Aside0 (spec_Put.j0 kq a1 a2 x26_5 a0_0 a0_1 l0_2 l0_3 l0_4 = some (r1, r2, r3, r4, r5, r6, r7)) ∧ Aside0 (kq ≤ k) ∧ Mem w [] wc [box 32 gb346 [.int .i64 a0_0, .int .i64 a0_1, .slice A0_2 l0_2.length c0_2, .slice A0_3 l0_3.length c0_3, .slice A0_4 l0_4.length c0_4], box 32 gb347 [.int .i64 0, .int .i64 0, .slice none 0 0, .slice none 0 0, .slice none 0 0]])
 case first =>
  have H := HC6.out
  clear HC6
  replace H := BN H; obtain ⟨t348, A8, H⟩ := H
  replace H := IB H
  rcases H with ⟨c10, H⟩ | ⟨c10, H⟩
  ·subst c10
   replace H := BN H; obtain ⟨t349, A11, H⟩ := H
   have H' := Aside0.mk H
   clear H
   obtain ⟨hcz7_0, hcz7_1, hcz7_2, hcz7_3, hcz7_4, hfz7_0, hfz7_1, hfz7_2, hfz7_3, hfz7_4⟩ := bk5 (HM.bx 0 rfl)
   go_wp2_with (first | ((with_reducible refine gate_callee (f := 32) rfl ?_); refine pC (some 18) rfl #[.agg #[.int .i64 a0_0, .int .i64 a0_1, .slice A0_2 l0_2.length c0_2, .slice A0_3 l0_3.length c0_3, .slice A0_4 l0_4.length c0_4]] rfl Try.func32 (spec_ThreeOk.calls k a0_0 a0_1 _ _ l0_2 _ _ l0_3 _ _ l0_4 true _ (HM.came HR0_2.out) HC0_2.out (HM.came HR0_3.out) HC0_3.out (HM.came HR0_4.out) HC0_4.out A8.out) ?_; rintro e w9 ⟨rfl, hR⟩; refine ⟨_, rfl, ?_⟩; replace HM := HM.call hR; clear hR) | ((with_reducible refine gate_callee (f := 65) rfl ?_); refine pC (some 24) rfl #[.agg #[.string a1, .string a2, .int .i64 0]] rfl Try.func65 (spec_ItemOk.calls k a1 a2 0 t349 _ A11.out) ?_; rintro e w12 ⟨rfl, hR⟩; refine ⟨_, rfl, ?_⟩; replace HM := HM.call hR; clear hR))
   go_meet
   case rel => exact ⟨_, (!t349), RS, H', ⟨by first | omega | exact Nat.le_refl _⟩, (MD HM).pick [0, 1]⟩
  ·subst c10
   have H' := Aside0.mk H
   clear H
   obtain ⟨hcz7_0, hcz7_1, hcz7_2, hcz7_3, hcz7_4, hfz7_0, hfz7_1, hfz7_2, hfz7_3, hfz7_4⟩ := bk5 (HM.bx 0 rfl)
   go_wp2_with (first | ((with_reducible refine gate_callee (f := 32) rfl ?_); refine pC (some 18) rfl #[.agg #[.int .i64 a0_0, .int .i64 a0_1, .slice A0_2 l0_2.length c0_2, .slice A0_3 l0_3.length c0_3, .slice A0_4 l0_4.length c0_4]] rfl Try.func32 (spec_ThreeOk.calls k a0_0 a0_1 _ _ l0_2 _ _ l0_3 _ _ l0_4 false _ (HM.came HR0_2.out) HC0_2.out (HM.came HR0_3.out) HC0_3.out (HM.came HR0_4.out) HC0_4.out A8.out) ?_; rintro e w9 ⟨rfl, hR⟩; refine ⟨_, rfl, ?_⟩; replace HM := HM.call hR; clear hR))
   go_meet
   case rel => exact ⟨_, (true), RS, H', ⟨by first | omega | exact Nat.le_refl _⟩, (MD HM).pick [0, 1]⟩
 case rest =>
  clear HC6 HM
  obtain ⟨kq, x26_5, rfl, HA, HJ5, HM⟩ := hcut
  cases kq with
  | zero => exact absurd HA.out (by simp [spec_Put.j0])
  | succ kj5 =>
   have H := HA.out
   clear HA
   simp only [spec_Put.j0] at H
   go_upto_if 26 with (fail)
   replace H := IB H
   rcases H with ⟨c13, H⟩ | ⟨c13, H⟩
   ·subst c13
    simp only [Option.some.injEq, Prod.mk.injEq] at H
    obtain ⟨rfl, rfl, rfl, rfl, rfl, rfl, rfl⟩ := H
    go_wp2_with (first | ((with_reducible refine gate_st (p := 6) rfl ?_); refine pS 1 6 0 [.int .i64 0, .int .i64 0, .slice none 0 0, .slice none 0 0, .slice none 0 0] HM rfl rfl ?_; clear HM; intro w14 HM; replace HM := HM.nl k95 95; replace HM := HM.nl k95 95; replace HM := HM.nl (Kd.int .i64) 3; replace HM := HM.toQ 4 rfl; replace HM := HM.nl Kd.string 9))
    refine bodyPost_ret (results_ctt rfl _ _ gb347 32 #[.int .i64 0, .int .i64 0, .slice none 0 0, .slice none 0 0, .slice none 0 0] (0, 0) _ rfl (HM.bx 1 rfl) Try.underlying32 rfl (by kernel_rfl)) rfl ?_
    exact ⟨_, _, _, _, ER, (MD HM).pick [2, 3, 4, 5]⟩
   ·subst c13
    replace H := BN H; obtain ⟨⟨t350, t351, t352, t355, t358⟩, A16, H⟩ := H
    replace H := BN H; obtain ⟨⟨t361, t362, t363, t366, t369, t372, t373⟩, A18, H⟩ := H
    obtain ⟨hcz15_0, hcz15_1, hcz15_2, hcz15_3, hcz15_4, hfz15_0, hfz15_1, hfz15_2, hfz15_3, hfz15_4⟩ := bk5 (HM.bx 0 rfl)
    go_upto_if 37 with (first | ((with_reducible refine gate_callee (f := 48) rfl ?_); refine pC (some 30) rfl #[.agg #[.int .i64 a0_0, .int .i64 a0_1, .slice A0_2 l0_2.length c0_2, .slice A0_3 l0_3.length c0_3, .slice A0_4 l0_4.length c0_4]] rfl Try.func48 (spec_l10Copy.calls a0_0 a0_1 _ _ l0_2 _ _ l0_3 _ _ l0_4 t350 t351 t352 t355 t358 _ (HM.came HR0_2.out) HC0_2.out (HM.came HR0_3.out) HC0_3.out (HM.came HR0_4.out) HC0_4.out A16.out) ?_; rintro e w17 ⟨v353, v356, v359, rfl, hR⟩; refine ⟨_, rfl, ?_⟩; replace HM := HM.call hR; clear hR) | ((with_reducible refine gate_callee (f := 69) rfl ?_); refine pC (some 33) rfl #[.agg #[.int .i64 t350, .int .i64 t351, v353, v356, v359], .string a1, .bool true, .string a2] rfl Try.func69 (spec_l10Touch.calls kj5 t350 t351 v353 t352 v356 t355 v359 t358 a1 true a2 t361 t362 t363 t366 t369 t372 t373 _ _ _ (HM.focus [0, 1] [2, 3, 4]) A18.out) ?_; rintro e w19 ⟨v364, v367, v370, rfl, hR⟩; refine ⟨_, rfl, ?_⟩; replace HM := nzM hR.unfocus; clear hR) | ((with_reducible refine gate_dst (N := 9) rfl ?_); refine pB 9 32 [.int .i64 0, .int .i64 0, .slice none 0 0, .slice none 0 0, .slice none 0 0] HM rfl ?_; clear HM; intro gb374 w20 HM; obtain ⟨Xo21, ko21, eo21⟩ := HM.rdR 2 rfl; subst eo21; obtain ⟨Xo22, ko22, eo22⟩ := HM.rdR 3 rfl; subst eo22; obtain ⟨Xo23, ko23, eo23⟩ := HM.rdR 4 rfl; subst eo23) | ((with_reducible refine gate_st (p := 9) rfl ?_); refine pS 5 9 0 [.int .i64 t361, .int .i64 t362, .slice Xo21 t363.length ko21, .slice Xo22 t366.length ko22, .slice Xo23 t369.length ko23] HM rfl rfl ?_; clear HM; intro w24 HM))
    replace HM := nzM HM
    replace H := IB H
    rcases H with ⟨c25, H⟩ | ⟨c25, H⟩
    ·subst c25
     simp only [Option.some.injEq, Prod.mk.injEq] at H
     obtain ⟨rfl, rfl, rfl, rfl, rfl, rfl, rfl⟩ := H
     obtain ⟨hcz26_0, hcz26_1, hcz26_2, hcz26_3, hcz26_4, hfz26_0, hfz26_1, hfz26_2, hfz26_3, hfz26_4⟩ := bk5 (HM.bx 5 rfl)
     go_wp2_with (first | ((with_reducible refine gate_st (p := 6) rfl ?_); refine pS 1 6 0 [.int .i64 t361, .int .i64 t362, .slice Xo21 t363.length ko21, .slice Xo22 t366.length ko22, .slice Xo23 t369.length ko23] HM rfl rfl ?_; clear HM; intro w27 HM; replace HM := HM.toQ 4 rfl; replace HM := HM.nl Kd.string 9))
     refine bodyPost_ret (results_ctt rfl _ _ gb347 32 #[.int .i64 t361, .int .i64 t362, .slice Xo21 t363.length ko21, .slice Xo22 t366.length ko22, .slice Xo23 t369.length ko23] (0, 0) _ rfl (HM.bx 1 rfl) Try.underlying32 rfl (by kernel_rfl)) rfl ?_
     exact ⟨_, _, _, _, ER, (MD HM).pick [2, 3, 4, 6]⟩
    ·subst c25
     have H' := Aside0.mk H
     clear H
     go_wp2_with (first | ((with_reducible refine gate_dst (N := 39) rfl ?_); refine pL 39 Kd.string 9 ([] : List ByteArray) [] (Reps.none _ _) HM rfl ?_; clear HM; intro v376 w28 HM; replace HM := HM.toQ 4 rfl))
     go_loopg [12] kj5 (fun kq v12 w' => ∃ (x12_2 : List ByteArray) (x375000_2 : Int) (x375001_2 : Int) (x375002_2 : List (S95)) (x375003_2 : List (S95)) (x375004_2 : List Int) (u375002 : Value) (u375003 : Value) (u375004 : Value), Aside0 (spec_Put.l0 kq a1 a2 x12_2 x375000_2 x375001_2 x375002_2 x375003_2 x375004_2 = some (r1, r2, r3, r4, r5, r6, r7)) ∧ Aside0 (kq ≤ kj5) ∧ Mem w [] w' [rowR Kd.string 9 v12 x12_2, rowR k95 95 u375002 x375002_2, rowR k95 95 u375003 x375003_2, row (Kd.int .i64) 3 u375004 x375004_2, box 32 gb346 [.int .i64 a0_0, .int .i64 a0_1, .slice A0_2 l0_2.length c0_2, .slice A0_3 l0_3.length c0_3, .slice A0_4 l0_4.length c0_4], box 32 gb347 [.int .i64 0, .int .i64 0, .slice none 0 0, .slice none 0 0, .slice none 0 0], box 32 gb374 [.int .i64 x375000_2, .int .i64 x375001_2, u375002, u375003, u375004]])
     case atStart => exact ⟨((([] : List ByteArray))), (t361), (t362), (t363), (t366), (t369), (.slice Xo21 t363.length ko21), (.slice Xo22 t366.length ko22), (.slice Xo23 t369.length ko23), H', ⟨Nat.le_refl _⟩, (MD HM).pick [6, 2, 3, 4, 0, 1, 5]⟩
     case round =>
      clear H' HM
      obtain ⟨x12_2, x375000_2, x375001_2, x375002_2, x375003_2, x375004_2, u375002, u375003, u375004, HA, HK2, HM⟩ := hrel
      cases gk with
      | zero => exact absurd HA.out (by simp [spec_Put.l0])
      | succ k2 =>
       have H := HA.out
       clear HA
       simp only [spec_Put.l0] at H
       obtain ⟨hcz29_0, hcz29_1, hcz29_2, hcz29_3, hcz29_4, hfz29_0, hfz29_1, hfz29_2, hfz29_3, hfz29_4⟩ := bk5 (HM.bx 6 rfl)
       obtain ⟨Xo30, ko30, eo30⟩ := HM.rdR 1 rfl
       subst eo30
       obtain ⟨Xo31, ko31, eo31⟩ := HM.rdR 2 rfl
       subst eo31
       go_upto_if 49 with (fail)
       replace H := IT H; rcases H with ⟨c32, H⟩ | ⟨c32, H⟩
       ·have c32b0 : decide (x375000_2 ≤ (wrap64 ((x375002_2.length : Int) + (x375003_2.length : Int)))) = true := decide_eq_true c32
        clear c32
        (first | rw [c32b0] | (simp only [i64_w, i32_w]; rw [c32b0]) | skip)
        replace H := BN H; obtain ⟨⟨t378, t379, t380, t383, t386, t389, t390⟩, A33, H⟩ := H
        replace H := GD H; obtain ⟨c43, H⟩ := H
        have LMc43 := Aside0.mk c43
        clear c43
        have H' := Aside0.mk H
        clear H
        obtain ⟨Xo35, ko35, eo35⟩ := HM.rd 3 rfl
        subst eo35
        go_wp2_with (first | ((with_reducible refine gate_callee (f := 70) rfl ?_); refine pC (some 52) rfl #[.agg #[.int .i64 x375000_2, .int .i64 x375001_2, .slice Xo30 x375002_2.length ko30, .slice Xo31 x375003_2.length ko31, .slice Xo35 x375004_2.length ko35]] rfl Try.func70 (spec_Evict.calls k2 x375000_2 x375001_2 _ _ x375002_2 _ _ x375003_2 _ _ x375004_2 t378 t379 t380 t383 t386 t389 t390 _ (HM.CR 1 rfl).2.2 (HM.CR 1 rfl).2.1 (HM.CR 2 rfl).2.2 (HM.CR 2 rfl).2.1 (HM.C 3 rfl).2.2 (HM.C 3 rfl).2.1 A33.out) ?_; rintro e w34 ⟨v381, v384, v387, rfl, hR⟩; refine ⟨_, rfl, ?_⟩; replace HM := HM.call hR; clear hR) | ((with_reducible refine gate_dst (N := 13) rfl ?_); refine pB 13 32 [.int .i64 0, .int .i64 0, .slice none 0 0, .slice none 0 0, .slice none 0 0] HM rfl ?_; clear HM; intro gb391 w36 HM; obtain ⟨Xo37, ko37, eo37⟩ := HM.rdR 7 rfl; subst eo37; obtain ⟨Xo38, ko38, eo38⟩ := HM.rdR 8 rfl; subst eo38; obtain ⟨Xo39, ko39, eo39⟩ := HM.rd 9 rfl; subst eo39) | ((with_reducible refine gate_st (p := 13) rfl ?_); refine pS 10 13 0 [.int .i64 t378, .int .i64 t379, .slice Xo37 t380.length ko37, .slice Xo38 t383.length ko38, .slice Xo39 t386.length ko39] HM rfl rfl ?_; clear HM; intro w40 HM; obtain ⟨hcz41_0, hcz41_1, hcz41_2, hcz41_3, hcz41_4, hfz41_0, hfz41_1, hfz41_2, hfz41_3, hfz41_4⟩ := bk5 (HM.bx 10 rfl)) | ((with_reducible refine gate_st (p := 9) rfl ?_); refine pS 6 9 0 [.int .i64 t378, .int .i64 t379, .slice Xo37 t380.length ko37, .slice Xo38 t383.length ko38, .slice Xo39 t386.length ko39] HM rfl rfl ?_; clear HM; intro w42 HM) | ((with_reducible refine gate_dst (N := 59) rfl ?_); refine pL 59 Kd.string 9 [t389] [.string t389] (Reps.one (show Kd.M Kd.string _ _ _ t389 [.string t389] from rfl) (Reps.none _ _)) HM rfl ?_; clear HM; intro v45 w44 HM; obtain ⟨Xv45, kv45, ev45⟩ := HM.rdR 11 rfl; subst ev45) | ((with_reducible refine gate_builtin (b := .append) (xs := #[.tmp 57, .tmp 59]) rfl ?_); refine pA 0 (.tmp 57) (.tmp 59) 67 9 Kd.string u12 x12_2 [t389] Xv45 ([t389].length) kv45 HM rfl Try.underlying67 info9 rfl (HM.CR 11 rfl).2.2 (by have h_ := LMc43.out; simp only [List.length_singleton]; omega) ?_; clear HM; intro v393 w46 HM))
        go_roundg k2
        case measure => have := HJ5.out; have := HK2.out; omega
        case rel => exact ⟨((x12_2 ++ [t389])), (t378), (t379), (t380), (t383), (t386), (.slice Xo37 t380.length ko37), (.slice Xo38 t383.length ko38), (.slice Xo39 t386.length ko39), H', ⟨by have := HJ5.out; have := HK2.out; omega⟩, (MD HM).pick [0, 7, 8, 9, 4, 5, 6]⟩
       ·have c32b0 : decide (x375000_2 ≤ (wrap64 ((x375002_2.length : Int) + (x375003_2.length : Int)))) = false := decide_eq_false c32
        clear c32
        (first | rw [c32b0] | (simp only [i64_w, i32_w]; rw [c32b0]) | skip)
        try go_wp2_with (first | ((with_reducible refine gate_dst (N := 16) rfl ?_); refine pB 16 95 [.string (⟨#[]⟩ : ByteArray), .string (⟨#[]⟩ : ByteArray), .int .i64 0] HM rfl ?_; clear HM; intro gb395 w47 HM) | ((with_reducible refine gate_st (p := 16) rfl ?_); refine pS 7 16 0 [.string a1, .string a2, .int .i64 0] HM rfl rfl ?_; clear HM; intro w48 HM))
        replace H := BN H; obtain ⟨t396, A49, H⟩ := H
        replace H := BN H; obtain ⟨t397, A50, H⟩ := H
        obtain ⟨Xo55, ko55, eo55⟩ := HM.rd 3 rfl
        subst eo55
        refine RGN 5 [0, 1, 2, 3, 4] (fun a0 b a w' => a = putSel a0 b [(0, 64, .pointer (some ⟨gb374, 4, none⟩)), (1, 65, .slice Xo55 x375004_2.length ko55), (2, 66, .string a1), (3, 67, .int .i64 t396), (4, 68, .bool t397)] ∧ Mem w [] w' [rowR Kd.string 9 u12 x12_2, rowR k95 95 (.slice Xo30 x375002_2.length ko30) x375002_2, rowR k95 95 (.slice Xo31 x375003_2.length ko31) x375003_2, row (Kd.int .i64) 3 (.slice Xo55 x375004_2.length ko55) x375004_2, box 32 gb346 [.int .i64 a0_0, .int .i64 a0_1, .slice A0_2 l0_2.length c0_2, .slice A0_3 l0_3.length c0_3, .slice A0_4 l0_4.length c0_4], box 32 gb347 [.int .i64 0, .int .i64 0, .slice none 0 0, .slice none 0 0, .slice none 0 0], box 32 gb374 [.int .i64 x375000_2, .int .i64 x375001_2, .slice Xo30 x375002_2.length ko30, .slice Xo31 x375003_2.length ko31, .slice Xo55 x375004_2.length ko55], box 95 gb395 [.string a1, .string a2, .int .i64 0]]) spec_Put.tab12 spec_Put.bits12 ?_ ?_ ?_
        ·exact ⟨PS0' rfl _, (HM.drew).pick [0, 1, 2, 3, 4, 5, 6, 7]⟩
        ·clear HM
         refine steps_cons ?_ ?_
         ·rintro b a w ⟨ha, HM⟩ hb hon hoff
          refine ⟨_, rfl, fun K hK => ?_⟩
          have e9 := POF ha 9
          replace ha := Aside0.mk ha
          exact VL (.pointer (some ⟨gb374, 4, none⟩)) (hK.out _ _ ⟨PUT ha 0 hb, HM⟩)
         refine steps_cons ?_ ?_
         ·rintro b a w ⟨ha, HM⟩ hb hon hoff
          refine ⟨_, rfl, fun K hK => ?_⟩
          obtain ⟨hcz56_0, hcz56_1, hcz56_2, hcz56_3, hcz56_4, hfz56_0, hfz56_1, hfz56_2, hfz56_3, hfz56_4⟩ := bk5 (HM.bx 6 rfl)
          have e64 := PON ha 0 (hon 0 (by kernel_rfl))
          replace ha := Aside0.mk ha
          exact VL (.slice Xo55 x375004_2.length ko55) (hK.out _ _ ⟨PUT ha 1 hb, HM⟩)
         refine steps_cons ?_ ?_
         ·rintro b a w ⟨ha, HM⟩ hb hon hoff
          refine ⟨_, rfl, fun K hK => ?_⟩
          have e1 := POF ha 1
          replace ha := Aside0.mk ha
          exact VL (.string a1) (hK.out _ _ ⟨PUT ha 2 hb, HM⟩)
         refine steps_cons ?_ ?_
         ·rintro b a w ⟨ha, HM⟩ hb hon hoff
          refine ⟨_, rfl, fun K hK => ?_⟩
          have e66 := PON ha 2 (hon 2 (by kernel_rfl))
          replace ha := Aside0.mk ha
          refine ST (eC (some 67) rfl #[.string a1] rfl Try.func71 (spec_Hash.calls k2 a1 t396 _ A49.out) ?_ (hargs := by (simp only [List.map_toArray, List.map_cons, List.map_nil, evc, eval_of e66]) <;> rfl))
          rintro e w57 ⟨rfl, hd⟩
          refine ⟨_, rfl, ?_⟩
          replace HM := HM.drawn hd
          clear hd
          exact hK.out _ _ ⟨PUT ha 3 hb, (HM).pick [0, 1, 2, 3, 4, 5, 6, 7]⟩
         refine steps_cons ?_ ?_
         ·rintro b a w ⟨ha, HM⟩ hb hon hoff
          refine ⟨_, rfl, fun K hK => ?_⟩
          have e65 := PON ha 1 (hon 1 (by kernel_rfl))
          have e67 := PON ha 3 (hon 3 (by kernel_rfl))
          replace ha := Aside0.mk ha
          refine ST (eC (some 68) rfl #[.slice Xo55 x375004_2.length ko55, .int .i64 t396] rfl Try.func68 (spec_l03Has.calls k2 _ _ x375004_2 t396 t397 _ (HM.C 3 rfl).2.2 (HM.C 3 rfl).2.1 A50.out) ?_ (hargs := by (simp only [List.map_toArray, List.map_cons, List.map_nil, evc, eval_of e65, eval_of e67]) <;> rfl))
          rintro e w58 ⟨rfl, hd⟩
          refine ⟨_, rfl, ?_⟩
          replace HM := HM.drawn hd
          clear hd
          exact hK.out _ _ ⟨PUT ha 4 hb, (HM).pick [0, 1, 2, 3, 4, 5, 6, 7]⟩
         exact steps_nil
        rintro _ w59 ⟨rfl, HM⟩
        simp only [putSel, if_true, Act.put, List.setIfInBounds_toArray, List.set_cons_zero, List.set_cons_succ, gt_iff_lt, ge_iff_le]
        go_upto_if 68 with (fail)
        replace H := IB H
        rcases H with ⟨c60, H⟩ | ⟨c60, H⟩
        ·subst c60
         try go_wp2
         replace H := BN H; obtain ⟨t398, A61, H⟩ := H
         replace H := BN H; obtain ⟨t399, A62, H⟩ := H
         refine RGN 7 [0, 1, 2, 3, 4, 5, 6] (fun a0 b a w' => ∃ (v400 : Value), a = putSel a0 b [(0, 69, .pointer (some ⟨gb374, 4, none⟩)), (1, 70, .slice Xo55 x375004_2.length ko55), (2, 71, .string a1), (3, 72, .int .i64 t398), (4, 73, v400), (5, 74, .pointer (some ⟨gb374, 4, none⟩))] ∧ Mem w [] w' [rowR Kd.string 9 u12 x12_2, rowR k95 95 (.slice Xo30 x375002_2.length ko30) x375002_2, rowR k95 95 (.slice Xo31 x375003_2.length ko31) x375003_2, row (Kd.int .i64) 3 (.slice Xo55 x375004_2.length ko55) x375004_2, box 32 gb346 [.int .i64 a0_0, .int .i64 a0_1, .slice A0_2 l0_2.length c0_2, .slice A0_3 l0_3.length c0_3, .slice A0_4 l0_4.length c0_4], box 32 gb347 [.int .i64 0, .int .i64 0, .slice none 0 0, .slice none 0 0, .slice none 0 0], sel (b 6) (box 32 gb374 [.int .i64 x375000_2, .int .i64 x375001_2, .slice Xo30 x375002_2.length ko30, .slice Xo31 x375003_2.length ko31, v400]) (box 32 gb374 [.int .i64 x375000_2, .int .i64 x375001_2, .slice Xo30 x375002_2.length ko30, .slice Xo31 x375003_2.length ko31, .slice Xo55 x375004_2.length ko55]), box 95 gb395 [.string a1, .string a2, .int .i64 0], sel (b 4) (rowR (Kd.int .i64) 3 v400 t399) (emp)]) spec_Put.tab13 spec_Put.bits13 ?_ ?_ ?_
         ·exact ⟨.bool false, PS0' rfl _, (HM.drew.ems 1).pick [0, 1, 2, 3, 4, 5, 6, 7, 8]⟩
         ·clear HM
          refine steps_cons ?_ ?_
          ·rintro b a w ⟨v400, ha, HM⟩ hb hon hoff
           refine ⟨_, rfl, fun K hK => ?_⟩
           have e9 := POF ha 9
           replace ha := Aside0.mk ha
           exact VL (.pointer (some ⟨gb374, 4, none⟩)) (hK.out _ _ ⟨v400, PUT ha 0 hb, HM⟩)
          refine steps_cons ?_ ?_
          ·rintro b a w ⟨v400, ha, HM⟩ hb hon hoff
           refine ⟨_, rfl, fun K hK => ?_⟩
           have HZ := HM
           replace HM := HM.sF 6 rfl (hoff 6 (by kernel_rfl))
           obtain ⟨hcz68_0, hcz68_1, hcz68_2, hcz68_3, hcz68_4, hfz68_0, hfz68_1, hfz68_2, hfz68_3, hfz68_4⟩ := bk5 (HM.bx 6 rfl)
           have e69 := PON ha 0 (hon 0 (by kernel_rfl))
           replace ha := Aside0.mk ha
           exact VL (.slice Xo55 x375004_2.length ko55) (hK.out _ _ ⟨v400, PUT ha 1 hb, HZ⟩)
          refine steps_cons ?_ ?_
          ·rintro b a w ⟨v400, ha, HM⟩ hb hon hoff
           refine ⟨_, rfl, fun K hK => ?_⟩
           have e1 := POF ha 1
           replace ha := Aside0.mk ha
           exact VL (.string a1) (hK.out _ _ ⟨v400, PUT ha 2 hb, HM⟩)
          refine steps_cons ?_ ?_
          ·rintro b a w ⟨v400, ha, HM⟩ hb hon hoff
           refine ⟨_, rfl, fun K hK => ?_⟩
           have e71 := PON ha 2 (hon 2 (by kernel_rfl))
           replace ha := Aside0.mk ha
           refine ST (eC (some 72) rfl #[.string a1] rfl Try.func71 (spec_Hash.calls k2 a1 t398 _ A61.out) ?_ (hargs := by (simp only [List.map_toArray, List.map_cons, List.map_nil, evc, eval_of e71]) <;> rfl))
           rintro e w69 ⟨rfl, hd⟩
           refine ⟨_, rfl, ?_⟩
           replace HM := HM.drawn hd
           clear hd
           exact hK.out _ _ ⟨v400, PUT ha 3 hb, (HM).pick [0, 1, 2, 3, 4, 5, 6, 7, 8]⟩
          refine steps_cons ?_ ?_
          ·rintro b a w ⟨v400, ha, HM⟩ hb hon hoff
           refine ⟨_, rfl, fun K hK => ?_⟩
           have e70 := PON ha 1 (hon 1 (by kernel_rfl))
           have e72 := PON ha 3 (hon 3 (by kernel_rfl))
           replace ha := Aside0.mk ha
           refine ST (eC (some 73) rfl #[.slice Xo55 x375004_2.length ko55, .int .i64 t398] rfl Try.func72 (spec_l08But.calls k2 _ _ x375004_2 t398 t399 _ (HM.C 3 rfl).2.2 (HM.C 3 rfl).2.1 A62.out) ?_ (hargs := by (simp only [List.map_toArray, List.map_cons, List.map_nil, evc, eval_of e70, eval_of e72]) <;> rfl))
           rintro e w70 ⟨v400, rfl, hR⟩
           refine ⟨_, rfl, ?_⟩
           replace HM := HM.call hR
           clear hR
           exact hK.out _ _ ⟨v400, PUT ha 4 hb, ((HM.sF 6 rfl (hoff 6 (by kernel_rfl))).iF 6 rfl (hoff 6 (by kernel_rfl))).pick [0, 1, 2, 3, 4, 5, 6, 7, 9]⟩
          refine steps_cons ?_ ?_
          ·rintro b a w ⟨v400, ha, HM⟩ hb hon hoff
           refine ⟨_, rfl, fun K hK => ?_⟩
           have e9 := POF ha 9
           replace ha := Aside0.mk ha
           exact VL (.pointer (some ⟨gb374, 4, none⟩)) (hK.out _ _ ⟨v400, PUT ha 5 hb, HM⟩)
          refine steps_cons ?_ ?_
          ·rintro b a w ⟨v400, ha, HM⟩ hb hon hoff
           refine ⟨_, rfl, fun K hK => ?_⟩
           replace HM := HM.sF 6 rfl hb
           replace HM := HM.sT 8 rfl (hon 4 (by kernel_rfl))
           obtain ⟨Xo71, ko71, eo71⟩ := HM.rdR 8 rfl
           subst eo71
           have e74 := PON ha 5 (hon 5 (by kernel_rfl))
           have e73 := PON ha 4 (hon 4 (by kernel_rfl))
           replace ha := Aside0.mk ha
           refine ST (eS 6 74 4 [.slice Xo71 t399.length ko71] HM rfl rfl ?_ (hp := (eval_of e74)) (hx := (by rw [eval_of e73]; rfl)))
           clear HM
           intro w72 HM
           exact hK.out _ _ ⟨.slice Xo71 t399.length ko71, PUS ha, (HM.iT 8 rfl (hon 4 (by kernel_rfl))).pick [0, 1, 2, 3, 4, 5, 6, 7, 8]⟩
          exact steps_nil
         rintro _ w73 ⟨v400, rfl, HM⟩
         replace HM := HM.sT 6 rfl rfl
         replace HM := HM.sT 8 rfl rfl
         simp only [putSel, if_true, Act.put, List.setIfInBounds_toArray, List.set_cons_zero, List.set_cons_succ, gt_iff_lt, ge_iff_le]
         replace H := GD H; obtain ⟨c76, H⟩ := H
         have LMc76 := Aside0.mk c76
         clear c76
         simp only [Option.some.injEq, Prod.mk.injEq] at H
         obtain ⟨rfl, rfl, rfl, rfl, rfl, rfl, rfl⟩ := H
         obtain ⟨hcz74_0, hcz74_1, hcz74_2, hcz74_3, hcz74_4, hfz74_0, hfz74_1, hfz74_2, hfz74_3, hfz74_4⟩ := bk5 (HM.bx 6 rfl)
         obtain ⟨hcz75_0, hcz75_1, hcz75_2, hfz75_0, hfz75_1, hfz75_2⟩ := bk3 (HM.bx 7 rfl)
         go_wp2_with (first | ((with_reducible refine gate_dst (N := 78) rfl ?_); refine pL 78 k95 95 [(⟨a1, a2, 0⟩ : S95)] [.string a1, .string a2, .int .i64 0] (Reps.c3 (show Kd.M k95 _ _ _ (⟨a1, a2, 0⟩ : S95) [.string a1, .string a2, .int .i64 0] from (k95_mkM _ _ _ (⟨a1, a2, 0⟩ : S95))) (Reps.none _ _)) HM rfl ?_; clear HM; intro v78 w77 HM; obtain ⟨Xv78, kv78, ev78⟩ := HM.rdR 9 rfl; subst ev78) | ((with_reducible refine gate_builtin (b := .append) (xs := #[.tmp 76, .tmp 78]) rfl ?_); refine pA 2 (.tmp 76) (.tmp 78) 30 95 k95 (.slice Xo31 x375003_2.length ko31) x375003_2 [(⟨a1, a2, 0⟩ : S95)] Xv78 ([(⟨a1, a2, 0⟩ : S95)].length) kv78 HM rfl Try.underlying30 info95 rfl (HM.CR 9 rfl).2.2 (by have h_ := LMc76.out; simp only [List.length_singleton]; omega) ?_; clear HM; intro v403 w79 HM; obtain ⟨Xo80, ko80, eo80⟩ := HM.rdR 2 rfl; subst eo80) | ((with_reducible refine gate_st (p := 80) rfl ?_); refine pS 6 80 3 [.slice Xo80 (x375003_2 ++ [(⟨a1, a2, 0⟩ : S95)]).length ko80] HM rfl rfl ?_; clear HM; intro w81 HM; obtain ⟨hcz82_0, hcz82_1, hcz82_2, hcz82_3, hcz82_4, hfz82_0, hfz82_1, hfz82_2, hfz82_3, hfz82_4⟩ := bk5 (HM.bx 6 rfl); obtain ⟨Xo83, ko83, eo83⟩ := HM.rdR 8 rfl; subst eo83) | ((with_reducible refine gate_st (p := 6) rfl ?_); refine pS 5 6 0 [.int .i64 x375000_2, .int .i64 x375001_2, .slice Xo30 x375002_2.length ko30, .slice Xo80 (x375003_2 ++ [(⟨a1, a2, 0⟩ : S95)]).length ko80, .slice Xo83 t399.length ko83] HM rfl rfl ?_; clear HM; intro w84 HM; replace HM := HM.toQ 8 rfl))
         refine bodyPost_ret (results_ctt rfl _ _ gb347 32 #[.int .i64 x375000_2, .int .i64 x375001_2, .slice Xo30 x375002_2.length ko30, .slice Xo80 (x375003_2 ++ [(⟨a1, a2, 0⟩ : S95)]).length ko80, .slice Xo83 t399.length ko83] (0, 0) _ rfl (HM.bx 5 rfl) Try.underlying32 rfl (by kernel_rfl)) rfl ?_
         exact ⟨_, _, _, _, ER, (MD HM).pick [1, 2, 8, 0]⟩
        ·subst c60
         replace H := GD H; obtain ⟨c87, H⟩ := H
         have LMc87 := Aside0.mk c87
         clear c87
         simp only [Option.some.injEq, Prod.mk.injEq] at H
         obtain ⟨rfl, rfl, rfl, rfl, rfl, rfl, rfl⟩ := H
         obtain ⟨hcz85_0, hcz85_1, hcz85_2, hcz85_3, hcz85_4, hfz85_0, hfz85_1, hfz85_2, hfz85_3, hfz85_4⟩ := bk5 (HM.bx 6 rfl)
         obtain ⟨hcz86_0, hcz86_1, hcz86_2, hfz86_0, hfz86_1, hfz86_2⟩ := bk3 (HM.bx 7 rfl)
         go_wp2_with (first | ((with_reducible refine gate_dst (N := 84) rfl ?_); refine pL 84 k95 95 [(⟨a1, a2, 0⟩ : S95)] [.string a1, .string a2, .int .i64 0] (Reps.c3 (show Kd.M k95 _ _ _ (⟨a1, a2, 0⟩ : S95) [.string a1, .string a2, .int .i64 0] from (k95_mkM _ _ _ (⟨a1, a2, 0⟩ : S95))) (Reps.none _ _)) HM rfl ?_; clear HM; intro v89 w88 HM; obtain ⟨Xv89, kv89, ev89⟩ := HM.rdR 8 rfl; subst ev89) | ((with_reducible refine gate_builtin (b := .append) (xs := #[.tmp 82, .tmp 84]) rfl ?_); refine pA 1 (.tmp 82) (.tmp 84) 30 95 k95 (.slice Xo30 x375002_2.length ko30) x375002_2 [(⟨a1, a2, 0⟩ : S95)] Xv89 ([(⟨a1, a2, 0⟩ : S95)].length) kv89 HM rfl Try.underlying30 info95 rfl (HM.CR 8 rfl).2.2 (by have h_ := LMc87.out; simp only [List.length_singleton]; omega) ?_; clear HM; intro v406 w90 HM; obtain ⟨Xo91, ko91, eo91⟩ := HM.rdR 1 rfl; subst eo91) | ((with_reducible refine gate_st (p := 86) rfl ?_); refine pS 6 86 2 [.slice Xo91 (x375002_2 ++ [(⟨a1, a2, 0⟩ : S95)]).length ko91] HM rfl rfl ?_; clear HM; intro w92 HM; obtain ⟨hcz93_0, hcz93_1, hcz93_2, hcz93_3, hcz93_4, hfz93_0, hfz93_1, hfz93_2, hfz93_3, hfz93_4⟩ := bk5 (HM.bx 6 rfl)) | ((with_reducible refine gate_st (p := 6) rfl ?_); refine pS 5 6 0 [.int .i64 x375000_2, .int .i64 x375001_2, .slice Xo91 (x375002_2 ++ [(⟨a1, a2, 0⟩ : S95)]).length ko91, .slice Xo31 x375003_2.length ko31, .slice Xo55 x375004_2.length ko55] HM rfl rfl ?_; clear HM; intro w94 HM))
         refine bodyPost_ret (results_ctt rfl _ _ gb347 32 #[.int .i64 x375000_2, .int .i64 x375001_2, .slice Xo91 (x375002_2 ++ [(⟨a1, a2, 0⟩ : S95)]).length ko91, .slice Xo31 x375003_2.length ko31, .slice Xo55 x375004_2.length ko55] (0, 0) _ rfl (HM.bx 5 rfl) Try.underlying32 rfl (by kernel_rfl)) rfl ?_
         exact ⟨_, _, _, _, ER, (MD HM).pick [1, 2, 3, 0]⟩
def spec_l10Without.l0 : Nat → ByteArray → List (S95) → List (S95) → Int → Int → Option ((List (S95)))
 | 0, _, _, _, _, _ => none
 | k + 1, x1, x5, x9, x10, x11 => if x11 < x10 then (if 0 ≤ x11 then (if x11 < (x9.length : Int) then (if ((rd_T95 x9 x11).f0).toList = x1.toList then (spec_l10Without.l0 k x1 x5 x9 x10 (wrap64 (x11 + 1))) else (if x5.length < 3518437208883 then (spec_l10Without.l0 k x1 (x5 ++ [(⟨(rd_T95 x9 x11).f0, (rd_T95 x9 x11).f1, (rd_T95 x9 x11).f2⟩ : S95)]) x9 x10 (wrap64 (x11 + 1))) else (none))) else (none)) else (none)) else (some x5)
def spec_l10Without.f (k : Nat) (l0 : List (S95)) (a1 : ByteArray) : Option ((List (S95))) := spec_l10Without.l0 k a1 (([] : List (S95))) l0 (l0.length : Int) 0
theorem spec_l10Without.mono_l : ∀ k, (∀ y0 y1 y2 y3 y4, LeO (spec_l10Without.l0 k y0 y1 y2 y3 y4) (spec_l10Without.l0 (k + 1) y0 y1 y2 y3 y4))
 | 0 => fun _ _ _ _ _ r h => by simp [spec_l10Without.l0] at h
 | k + 1 => by
  have ih0 := spec_l10Without.mono_l k
  ·intro y0 y1 y2 y3 y4
   unfold spec_l10Without.l0
   repeat' first | (with_reducible first | exact ih0 _ _ _ _ _ | exact LeO.refl _ | exact LeO.none _ | refine LeO.ite ?_ ?_ | refine LeO.bind ?_ (fun _ => ?_)) | exact ih0 _ _ _ _ _ | exact LeO.none _ | refine LeO.ite ?_ ?_ | refine LeO.bind ?_ (fun _ => ?_)
theorem spec_l10Without.mono : ∀ a0 a1 k, LeO (spec_l10Without.f k a0 a1) (spec_l10Without.f (k + 1) a0 a1) := by
 intro a0 a1 k
 have ih0 := spec_l10Without.mono_l k
 unfold spec_l10Without.f
 repeat' first | (with_reducible first | exact ih0 _ _ _ _ _ | exact LeO.refl _ | exact LeO.none _ | refine LeO.ite ?_ ?_ | refine LeO.bind ?_ (fun _ => ?_)) | exact ih0 _ _ _ _ _ | exact LeO.none _ | refine LeO.ite ?_ ?_ | refine LeO.bind ?_ (fun _ => ?_)
set_option maxHeartbeats 8000000 in
set_option maxRecDepth 100000 in
theorem spec_l10Without.calls (k : Nat) (A0 : Option Addr) (c0 : Nat) (l0 : List (S95)) (a1 : ByteArray) (r : List (S95)) (w : World) (hr0 : Kd.C k95 w A0 l0.length l0) (hc0 : l0.length ≤ c0) (h : spec_l10Without.f k l0 a1 = some r) :
  Calls Try.prog 73 #[.slice A0 l0.length c0, .string a1] w fun e w' => ∃ v0_ : Value, e = .returned (v0_) ∧ Mem w [] w' [rowR k95 95 v0_ r] := by
 have hu95 := Try.underlying95
 have HR0 := Aside0.mk hr0
 have HC0 := Aside0.mk hc0
 clear hr0 hc0
 have HM := Mem.nil w
 have H := h
 clear h
 unfold spec_l10Without.f at H
 go_enter Try.func73, Try.ntmps73
 have H' := Aside0.mk H
 clear H
 go_wp2_with (first | ((with_reducible refine gate_dst (N := 8) rfl ?_); refine pL 8 k95 95 ([] : List (S95)) [] (Reps.none _ _) HM rfl ?_; clear HM; intro v414 w3 HM))
 go_loopg [5, 11] k (fun kq v5 v11 w' => ∃ (x5_1 : List (S95)) (x11_1 : Int), v11 = .int .i64 x11_1 ∧ Aside0 (spec_l10Without.l0 kq a1 x5_1 l0 (l0.length : Int) x11_1 = some r) ∧ Aside0 (kq ≤ k) ∧ Mem w [] w' [rowR k95 95 v5 x5_1])
 case atStart => exact ⟨((([] : List (S95)))), (0), RS, H', ⟨Nat.le_refl _⟩, (MD HM).pick [0]⟩
 case round =>
  clear H' HM
  obtain ⟨x5_1, x11_1, rfl, HA, HK1, HM⟩ := hrel
  cases gk with
  | zero => exact absurd HA.out (by simp [spec_l10Without.l0])
  | succ k1 =>
   have H := HA.out
   clear HA
   simp only [spec_l10Without.l0] at H
   go_upto_if 12 with (fail)
   replace H := IT H; rcases H with ⟨c4, H⟩ | ⟨c4, H⟩
   ·have c4b0 : decide (x11_1 < (l0.length : Int)) = true := decide_eq_true c4
    clear c4
    (first | rw [c4b0] | (simp only [i64_w, i32_w]; rw [c4b0]) | skip)
    replace H := GD H; obtain ⟨c5, H⟩ := H
    have c5b0 : decide (0 ≤ x11_1) = true := decide_eq_true c5
    clear c5
    replace H := GD H; obtain ⟨c6, H⟩ := H
    have c6b0 : decide (x11_1 < (l0.length : Int)) = true := decide_eq_true c6
    clear c6
    have p416 : 0 ≤ (x11_1 : Int) := of_decide_eq_true AS
    have q416 : (x11_1 : Int) < (l0.length : Int) := of_decide_eq_true AS
    obtain ⟨ad416, e416, hx416_0, hx416_1, hx416_2⟩ := at_T95 (HM.came HR0.out) x11_1 p416 q416
    cases e416
    replace p416 := eq_true p416
    replace q416 := eq_true q416
    go_upto_if 18 with (first | ((with_reducible refine gate_dst (N := 7) rfl ?_); refine pB 7 95 [.string (⟨#[]⟩ : ByteArray), .string (⟨#[]⟩ : ByteArray), .int .i64 0] HM rfl ?_; clear HM; intro gb417 w7 HM) | ((with_reducible refine gate_st (p := 7) rfl ?_); refine pS 1 7 0 [.string ((rd_T95 l0 x11_1).f0), .string ((rd_T95 l0 x11_1).f1), .int .i64 ((rd_T95 l0 x11_1).f2)] HM rfl rfl ?_; clear HM; intro w8 HM; obtain ⟨hcz9_0, hcz9_1, hcz9_2, hfz9_0, hfz9_1, hfz9_2⟩ := bk3 (HM.bx 1 rfl)))
    replace HM := nzM HM
    replace H := IT H; rcases H with ⟨c10, H⟩ | ⟨c10, H⟩
    ·have c10b0 : (((rd_T95 l0 x11_1).f0).toList == a1.toList) = true := beq_iff_eq.mpr c10
     have c10b1 : (((rd_T95 l0 x11_1).f0).toList != a1.toList) = false := bne_eq_false_iff_eq.mpr c10
     clear c10
     (first | rw [c10b0] | (simp only [i64_w, i32_w]; rw [c10b0]) | skip)
     have H' := Aside0.mk H
     clear H
     go_wp2
     go_roundg k1
     case measure => have := HK1.out; omega
     case rel => exact ⟨(x5_1), (wrap64 (x11_1 + 1)), RS, H', ⟨by have := HK1.out; omega⟩, (MD HM).pick [0]⟩
    ·have c10b0 : (((rd_T95 l0 x11_1).f0).toList == a1.toList) = false := beq_eq_false_iff_ne.mpr c10
     have c10b1 : (((rd_T95 l0 x11_1).f0).toList != a1.toList) = true := bne_iff_ne.mpr c10
     (first | rw [c10b0] | (simp only [i64_w, i32_w]; rw [c10b0]) | skip)
     replace H := GD H; obtain ⟨c11, H⟩ := H
     have LMc11 := Aside0.mk c11
     clear c11
     have H' := Aside0.mk H
     clear H
     go_wp2_with (first | ((with_reducible refine gate_dst (N := 21) rfl ?_); refine pL 21 k95 95 [(⟨(rd_T95 l0 x11_1).f0, (rd_T95 l0 x11_1).f1, (rd_T95 l0 x11_1).f2⟩ : S95)] [.string ((rd_T95 l0 x11_1).f0), .string ((rd_T95 l0 x11_1).f1), .int .i64 ((rd_T95 l0 x11_1).f2)] (Reps.c3 (show Kd.M k95 _ _ _ (⟨(rd_T95 l0 x11_1).f0, (rd_T95 l0 x11_1).f1, (rd_T95 l0 x11_1).f2⟩ : S95) [.string ((rd_T95 l0 x11_1).f0), .string ((rd_T95 l0 x11_1).f1), .int .i64 ((rd_T95 l0 x11_1).f2)] from (k95_mkM _ _ _ (⟨(rd_T95 l0 x11_1).f0, (rd_T95 l0 x11_1).f1, (rd_T95 l0 x11_1).f2⟩ : S95))) (Reps.none _ _)) HM rfl ?_; clear HM; intro v13 w12 HM; obtain ⟨Xv13, kv13, ev13⟩ := HM.rdR 2 rfl; subst ev13) | ((with_reducible refine gate_builtin (b := .append) (xs := #[.tmp 19, .tmp 21]) rfl ?_); refine pA 0 (.tmp 19) (.tmp 21) 30 95 k95 u5 x5_1 [(⟨(rd_T95 l0 x11_1).f0, (rd_T95 l0 x11_1).f1, (rd_T95 l0 x11_1).f2⟩ : S95)] Xv13 ([(⟨(rd_T95 l0 x11_1).f0, (rd_T95 l0 x11_1).f1, (rd_T95 l0 x11_1).f2⟩ : S95)].length) kv13 HM rfl Try.underlying30 info95 rfl (HM.CR 2 rfl).2.2 (by have h_ := LMc11.out; simp only [List.length_singleton]; omega) ?_; clear HM; intro v419 w14 HM))
     go_roundg k1
     case measure => have := HK1.out; omega
     case rel => exact ⟨((x5_1 ++ [(⟨(rd_T95 l0 x11_1).f0, (rd_T95 l0 x11_1).f1, (rd_T95 l0 x11_1).f2⟩ : S95)])), (wrap64 (x11_1 + 1)), RS, H', ⟨by have := HK1.out; omega⟩, (MD HM).pick [0]⟩
   ·have c4b0 : decide (x11_1 < (l0.length : Int)) = false := decide_eq_false c4
    clear c4
    (first | rw [c4b0] | (simp only [i64_w, i32_w]; rw [c4b0]) | skip)
    obtain rfl := Option.some.inj H
    go_wp2
    go_ret
    exact ⟨_, ER, (MD HM).pick [0]⟩
def spec_Drop.f (k : Nat) (a0_0 : Int) (a0_1 : Int) (l0_2 : List (S95)) (l0_3 : List (S95)) (l0_4 : List Int) (a1 : ByteArray) : Option (Int × Int × (List (S95)) × (List (S95)) × List Int × Bool) := (spec_ThreeOk.f k a0_0 a0_1 l0_2 l0_3 l0_4).bind fun t423 => (if t423 = true then ((spec_l10Copy.f a0_0 a0_1 l0_2 l0_3 l0_4).bind fun bt424 => ((spec_l10Without.f k bt424.2.2.1 a1).bind fun t436 => ((spec_l10Without.f k bt424.2.2.2.1 a1).bind fun t439 => (some (bt424.1, bt424.2.1, t436, t439, bt424.2.2.2.2, decide ((wrap64 ((t436.length : Int) + (t439.length : Int))) < (wrap64 ((l0_2.length : Int) + (l0_3.length : Int))))))))) else (some (0, 0, ([] : List (S95)), ([] : List (S95)), ([] : List Int), false)))
theorem spec_Drop.mono : ∀ a0 a1 a2 a3 a4 a5 k, LeO (spec_Drop.f k a0 a1 a2 a3 a4 a5) (spec_Drop.f (k + 1) a0 a1 a2 a3 a4 a5) := by
 intro a0 a1 a2 a3 a4 a5 k
 unfold spec_Drop.f
 repeat' first | (with_reducible first | exact spec_ThreeOk.mono _ _ _ _ _ _ | exact spec_l10Without.mono _ _ _ | exact LeO.refl _ | exact LeO.none _ | refine LeO.ite ?_ ?_ | refine LeO.bind ?_ (fun _ => ?_)) | exact spec_ThreeOk.mono _ _ _ _ _ _ | exact spec_l10Without.mono _ _ _ | exact LeO.none _ | refine LeO.ite ?_ ?_ | refine LeO.bind ?_ (fun _ => ?_)
def spec_Drop.T6 : Bool × List (List Nat × List Nat) := (true, [([], []), ([], []), ([1], [1]), ([2], [2]), ([], []), ([4], [4]), ([5], [5]), ([3, 6], [3, 6]), ([], []), ([8], [8]), ([9], [9]), ([], []), ([11], [11]), ([12], [12]), ([10, 13], [10, 13]), ([7, 14], [7, 14]), ([0, 0], [0]), ([15, 16, 0, 1, 2, 3, 4, 5, 6, 7, 8, 9, 10, 11, 12, 13, 14, 15, 16], [15])])
def spec_Drop.B6 : List Nat := [0, 0, 2, 6, 0, 16, 48, 126, 0, 256, 768, 0, 2048, 6144, 16128, 32766, 1, 131071]
theorem spec_Drop.tab6 : rtab .any (opsOf Try.f36 6) = spec_Drop.T6 := by kernel_rfl
theorem spec_Drop.bits6 : waitsOk spec_Drop.T6.2 spec_Drop.B6 = true := by kernel_rfl
set_option maxHeartbeats 8000000 in
set_option maxRecDepth 100000 in
theorem spec_Drop.calls (k : Nat) (a0_0 : Int) (a0_1 : Int) (A0_2 : Option Addr) (c0_2 : Nat) (l0_2 : List (S95)) (A0_3 : Option Addr) (c0_3 : Nat) (l0_3 : List (S95)) (A0_4 : Option Addr) (c0_4 : Nat) (l0_4 : List Int) (a1 : ByteArray) (r1 : Int) (r2 : Int) (r3 : List (S95)) (r4 : List (S95)) (r5 : List Int) (r6 : Bool) (w : World) (hr0_2 : Kd.C k95 w A0_2 l0_2.length l0_2) (hc0_2 : l0_2.length ≤ c0_2) (hr0_3 : Kd.C k95 w A0_3 l0_3.length l0_3) (hc0_3 : l0_3.length ≤ c0_3) (hr0_4 : Kd.C (Kd.int .i64) w A0_4 l0_4.length l0_4) (hc0_4 : l0_4.length ≤ c0_4) (h : spec_Drop.f k a0_0 a0_1 l0_2 l0_3 l0_4 a1 = some (r1, r2, r3, r4, r5, r6)) :
  Calls Try.prog 36 #[.agg #[.int .i64 a0_0, .int .i64 a0_1, .slice A0_2 l0_2.length c0_2, .slice A0_3 l0_3.length c0_3, .slice A0_4 l0_4.length c0_4], .string a1] w fun e w' => ∃ v2_ v3_ v4_ : Value, e = .returned (.tuple #[.agg #[.int .i64 r1, .int .i64 r2, v2_, v3_, v4_], .bool r6]) ∧ Mem w [] w' [rowR k95 95 v2_ r3, rowR k95 95 v3_ r4, rowR (Kd.int .i64) 3 v4_ r5] := by
 have hu32 := Try.underlying32
 have HR0_2 := Aside0.mk hr0_2
 have HC0_2 := Aside0.mk hc0_2
 clear hr0_2 hc0_2
 have HR0_3 := Aside0.mk hr0_3
 have HC0_3 := Aside0.mk hc0_3
 clear hr0_3 hc0_3
 have HR0_4 := Aside0.mk hr0_4
 have HC0_4 := Aside0.mk hc0_4
 clear hr0_4 hc0_4
 have HM := Mem.nil w
 have H := h
 clear h
 unfold spec_Drop.f at H
 go_enter Try.func36, Try.ntmps36
 replace H := BN H; obtain ⟨t423, A6, H⟩ := H
 go_upto_if 9 with (first | ((with_reducible refine gate_dst (N := 2) rfl ?_); refine pB 2 32 [.int .i64 a0_0, .int .i64 a0_1, .slice A0_2 l0_2.length c0_2, .slice A0_3 l0_3.length c0_3, .slice A0_4 l0_4.length c0_4] HM rfl ?_; clear HM; intro gb421 w3 HM) | ((with_reducible refine gate_dst (N := 4) rfl ?_); refine pB 4 32 [.int .i64 0, .int .i64 0, .slice none 0 0, .slice none 0 0, .slice none 0 0] HM rfl ?_; clear HM; intro gb422 w4 HM; obtain ⟨hcz5_0, hcz5_1, hcz5_2, hcz5_3, hcz5_4, hfz5_0, hfz5_1, hfz5_2, hfz5_3, hfz5_4⟩ := bk5 (HM.bx 0 rfl)) | ((with_reducible refine gate_callee (f := 32) rfl ?_); refine pC (some 8) rfl #[.agg #[.int .i64 a0_0, .int .i64 a0_1, .slice A0_2 l0_2.length c0_2, .slice A0_3 l0_3.length c0_3, .slice A0_4 l0_4.length c0_4]] rfl Try.func32 (spec_ThreeOk.calls k a0_0 a0_1 _ _ l0_2 _ _ l0_3 _ _ l0_4 t423 _ (HM.came HR0_2.out) HC0_2.out (HM.came HR0_3.out) HC0_3.out (HM.came HR0_4.out) HC0_4.out A6.out) ?_; rintro e w7 ⟨rfl, hR⟩; refine ⟨_, rfl, ?_⟩; replace HM := HM.call hR; clear hR))
 replace HM := nzM HM
 replace H := IB H
 rcases H with ⟨c8, H⟩ | ⟨c8, H⟩
 ·subst c8
  replace H := BN H; obtain ⟨⟨t424, t425, t426, t429, t432⟩, A10, H⟩ := H
  replace H := BN H; obtain ⟨t436, A18, H⟩ := H
  replace H := BN H; obtain ⟨t439, A23, H⟩ := H
  obtain ⟨hcz9_0, hcz9_1, hcz9_2, hcz9_3, hcz9_4, hfz9_0, hfz9_1, hfz9_2, hfz9_3, hfz9_4⟩ := bk5 (HM.bx 0 rfl)
  try go_wp2_with (first | ((with_reducible refine gate_callee (f := 48) rfl ?_); refine pC (some 12) rfl #[.agg #[.int .i64 a0_0, .int .i64 a0_1, .slice A0_2 l0_2.length c0_2, .slice A0_3 l0_3.length c0_3, .slice A0_4 l0_4.length c0_4]] rfl Try.func48 (spec_l10Copy.calls a0_0 a0_1 _ _ l0_2 _ _ l0_3 _ _ l0_4 t424 t425 t426 t429 t432 _ (HM.came HR0_2.out) HC0_2.out (HM.came HR0_3.out) HC0_3.out (HM.came HR0_4.out) HC0_4.out A10.out) ?_; rintro e w11 ⟨v427, v430, v433, rfl, hR⟩; refine ⟨_, rfl, ?_⟩; replace HM := HM.call hR; clear hR) | ((with_reducible refine gate_dst (N := 6) rfl ?_); refine pB 6 32 [.int .i64 0, .int .i64 0, .slice none 0 0, .slice none 0 0, .slice none 0 0] HM rfl ?_; clear HM; intro gb435 w12 HM; obtain ⟨Xo13, ko13, eo13⟩ := HM.rdR 2 rfl; subst eo13; obtain ⟨Xo14, ko14, eo14⟩ := HM.rdR 3 rfl; subst eo14; obtain ⟨Xo15, ko15, eo15⟩ := HM.rdR 4 rfl; subst eo15) | ((with_reducible refine gate_st (p := 6) rfl ?_); refine pS 5 6 0 [.int .i64 t424, .int .i64 t425, .slice Xo13 t426.length ko13, .slice Xo14 t429.length ko14, .slice Xo15 t432.length ko15] HM rfl rfl ?_; clear HM; intro w16 HM; obtain ⟨hcz17_0, hcz17_1, hcz17_2, hcz17_3, hcz17_4, hfz17_0, hfz17_1, hfz17_2, hfz17_3, hfz17_4⟩ := bk5 (HM.bx 5 rfl)) | ((with_reducible refine gate_callee (f := 73) rfl ?_); refine pC (some 16) rfl #[.slice Xo13 t426.length ko13, .string a1] rfl Try.func73 (spec_l10Without.calls k _ _ t426 a1 t436 _ (HM.CR 2 rfl).2.2 (HM.CR 2 rfl).2.1 A18.out) ?_; rintro e w19 ⟨v437, rfl, hR⟩; refine ⟨_, rfl, ?_⟩; replace HM := HM.call hR; clear hR; obtain ⟨Xo20, ko20, eo20⟩ := HM.rdR 6 rfl; subst eo20) | ((with_reducible refine gate_st (p := 17) rfl ?_); refine pS 5 17 2 [.slice Xo20 t436.length ko20] HM rfl rfl ?_; clear HM; intro w21 HM; obtain ⟨hcz22_0, hcz22_1, hcz22_2, hcz22_3, hcz22_4, hfz22_0, hfz22_1, hfz22_2, hfz22_3, hfz22_4⟩ := bk5 (HM.bx 5 rfl)) | ((with_reducible refine gate_callee (f := 73) rfl ?_); refine pC (some 21) rfl #[.slice Xo14 t429.length ko14, .string a1] rfl Try.func73 (spec_l10Without.calls k _ _ t429 a1 t439 _ (HM.CR 3 rfl).2.2 (HM.CR 3 rfl).2.1 A23.out) ?_; rintro e w24 ⟨v440, rfl, hR⟩; refine ⟨_, rfl, ?_⟩; replace HM := HM.call hR; clear hR; obtain ⟨Xo25, ko25, eo25⟩ := HM.rdR 7 rfl; subst eo25) | ((with_reducible refine gate_st (p := 22) rfl ?_); refine pS 5 22 3 [.slice Xo25 t439.length ko25] HM rfl rfl ?_; clear HM; intro w26 HM))
  refine RGN 18 [0, 1, 2, 3, 4, 5, 6, 7, 8, 9, 10, 11, 12, 13, 14, 15, 16, 17] (fun a0 b a w' => a = putSel a0 b [(0, 23, .agg #[.int .i64 t424, .int .i64 t425, .slice Xo20 t436.length ko20, .slice Xo25 t439.length ko25, .slice Xo15 t432.length ko15]), (1, 24, .pointer (some ⟨gb435, 2, none⟩)), (2, 25, .slice Xo20 t436.length ko20), (3, 26, .int .i64 (t436.length : Int)), (4, 27, .pointer (some ⟨gb435, 3, none⟩)), (5, 28, .slice Xo25 t439.length ko25), (6, 29, .int .i64 (t439.length : Int)), (7, 30, .int .i64 (wrap64 ((t436.length : Int) + (t439.length : Int)))), (8, 31, .pointer (some ⟨gb421, 2, none⟩)), (9, 32, .slice A0_2 l0_2.length c0_2), (10, 33, .int .i64 (l0_2.length : Int)), (11, 34, .pointer (some ⟨gb421, 3, none⟩)), (12, 35, .slice A0_3 l0_3.length c0_3), (13, 36, .int .i64 (l0_3.length : Int)), (14, 37, .int .i64 (wrap64 ((l0_2.length : Int) + (l0_3.length : Int)))), (15, 38, .bool (decide ((wrap64 ((t436.length : Int) + (t439.length : Int))) < (wrap64 ((l0_2.length : Int) + (l0_3.length : Int)))))), (17, 5, .bool (decide ((wrap64 ((t436.length : Int) + (t439.length : Int))) < (wrap64 ((l0_2.length : Int) + (l0_3.length : Int))))))] ∧ Mem w [] w' [box 32 gb421 [.int .i64 a0_0, .int .i64 a0_1, .slice A0_2 l0_2.length c0_2, .slice A0_3 l0_3.length c0_3, .slice A0_4 l0_4.length c0_4], sel (b 16) (box 32 gb422 [.int .i64 t424, .int .i64 t425, .slice Xo20 t436.length ko20, .slice Xo25 t439.length ko25, .slice Xo15 t432.length ko15]) (box 32 gb422 [.int .i64 0, .int .i64 0, .slice none 0 0, .slice none 0 0, .slice none 0 0]), rowR k95 95 (.slice Xo13 t426.length ko13) t426, rowR k95 95 (.slice Xo14 t429.length ko14) t429, rowR (Kd.int .i64) 3 (.slice Xo15 t432.length ko15) t432, box 32 gb435 [.int .i64 t424, .int .i64 t425, .slice Xo20 t436.length ko20, .slice Xo25 t439.length ko25, .slice Xo15 t432.length ko15], rowR k95 95 (.slice Xo20 t436.length ko20) t436, rowR k95 95 (.slice Xo25 t439.length ko25) t439]) spec_Drop.tab6 spec_Drop.bits6 ?_ ?_ ?_
  ·exact ⟨PS0' rfl _, (HM.drew).pick [0, 1, 2, 3, 4, 5, 6, 7]⟩
  ·clear HM
   refine steps_cons ?_ ?_
   ·rintro b a w ⟨ha, HM⟩ hb hon hoff
    refine ⟨_, rfl, fun K hK => ?_⟩
    obtain ⟨hcz33_0, hcz33_1, hcz33_2, hcz33_3, hcz33_4, hfz33_0, hfz33_1, hfz33_2, hfz33_3, hfz33_4⟩ := bk5 (HM.bx 5 rfl)
    have e6 := POF ha 6
    replace ha := Aside0.mk ha
    exact VL (.agg #[.int .i64 t424, .int .i64 t425, .slice Xo20 t436.length ko20, .slice Xo25 t439.length ko25, .slice Xo15 t432.length ko15]) (hK.out _ _ ⟨PUT ha 0 hb, HM⟩)
   refine steps_cons ?_ ?_
   ·rintro b a w ⟨ha, HM⟩ hb hon hoff
    refine ⟨_, rfl, fun K hK => ?_⟩
    have e6 := POF ha 6
    replace ha := Aside0.mk ha
    exact VL (.pointer (some ⟨gb435, 2, none⟩)) (hK.out _ _ ⟨PUT ha 1 hb, HM⟩)
   refine steps_cons ?_ ?_
   ·rintro b a w ⟨ha, HM⟩ hb hon hoff
    refine ⟨_, rfl, fun K hK => ?_⟩
    obtain ⟨hcz34_0, hcz34_1, hcz34_2, hcz34_3, hcz34_4, hfz34_0, hfz34_1, hfz34_2, hfz34_3, hfz34_4⟩ := bk5 (HM.bx 5 rfl)
    have e24 := PON ha 1 (hon 1 (by kernel_rfl))
    replace ha := Aside0.mk ha
    exact VL (.slice Xo20 t436.length ko20) (hK.out _ _ ⟨PUT ha 2 hb, HM⟩)
   refine steps_cons ?_ ?_
   ·rintro b a w ⟨ha, HM⟩ hb hon hoff
    refine ⟨_, rfl, fun K hK => ?_⟩
    have e25 := PON ha 2 (hon 2 (by kernel_rfl))
    replace ha := Aside0.mk ha
    exact VL (.int .i64 (t436.length : Int)) (hK.out _ _ ⟨PUT ha 3 hb, HM⟩)
   refine steps_cons ?_ ?_
   ·rintro b a w ⟨ha, HM⟩ hb hon hoff
    refine ⟨_, rfl, fun K hK => ?_⟩
    have e6 := POF ha 6
    replace ha := Aside0.mk ha
    exact VL (.pointer (some ⟨gb435, 3, none⟩)) (hK.out _ _ ⟨PUT ha 4 hb, HM⟩)
   refine steps_cons ?_ ?_
   ·rintro b a w ⟨ha, HM⟩ hb hon hoff
    refine ⟨_, rfl, fun K hK => ?_⟩
    obtain ⟨hcz35_0, hcz35_1, hcz35_2, hcz35_3, hcz35_4, hfz35_0, hfz35_1, hfz35_2, hfz35_3, hfz35_4⟩ := bk5 (HM.bx 5 rfl)
    have e27 := PON ha 4 (hon 4 (by kernel_rfl))
    replace ha := Aside0.mk ha
    exact VL (.slice Xo25 t439.length ko25) (hK.out _ _ ⟨PUT ha 5 hb, HM⟩)
   refine steps_cons ?_ ?_
   ·rintro b a w ⟨ha, HM⟩ hb hon hoff
    refine ⟨_, rfl, fun K hK => ?_⟩
    have e28 := PON ha 5 (hon 5 (by kernel_rfl))
    replace ha := Aside0.mk ha
    exact VL (.int .i64 (t439.length : Int)) (hK.out _ _ ⟨PUT ha 6 hb, HM⟩)
   refine steps_cons ?_ ?_
   ·rintro b a w ⟨ha, HM⟩ hb hon hoff
    refine ⟨_, rfl, fun K hK => ?_⟩
    have e26 := PON ha 3 (hon 3 (by kernel_rfl))
    have e29 := PON ha 6 (hon 6 (by kernel_rfl))
    replace ha := Aside0.mk ha
    exact VL (.int .i64 (wrap64 ((t436.length : Int) + (t439.length : Int)))) (hK.out _ _ ⟨PUT ha 7 hb, HM⟩)
   refine steps_cons ?_ ?_
   ·rintro b a w ⟨ha, HM⟩ hb hon hoff
    refine ⟨_, rfl, fun K hK => ?_⟩
    have e2 := POF ha 2
    replace ha := Aside0.mk ha
    exact VL (.pointer (some ⟨gb421, 2, none⟩)) (hK.out _ _ ⟨PUT ha 8 hb, HM⟩)
   refine steps_cons ?_ ?_
   ·rintro b a w ⟨ha, HM⟩ hb hon hoff
    refine ⟨_, rfl, fun K hK => ?_⟩
    obtain ⟨hcz36_0, hcz36_1, hcz36_2, hcz36_3, hcz36_4, hfz36_0, hfz36_1, hfz36_2, hfz36_3, hfz36_4⟩ := bk5 (HM.bx 0 rfl)
    have e31 := PON ha 8 (hon 8 (by kernel_rfl))
    replace ha := Aside0.mk ha
    exact VL (.slice A0_2 l0_2.length c0_2) (hK.out _ _ ⟨PUT ha 9 hb, HM⟩)
   refine steps_cons ?_ ?_
   ·rintro b a w ⟨ha, HM⟩ hb hon hoff
    refine ⟨_, rfl, fun K hK => ?_⟩
    have e32 := PON ha 9 (hon 9 (by kernel_rfl))
    replace ha := Aside0.mk ha
    exact VL (.int .i64 (l0_2.length : Int)) (hK.out _ _ ⟨PUT ha 10 hb, HM⟩)
   refine steps_cons ?_ ?_
   ·rintro b a w ⟨ha, HM⟩ hb hon hoff
    refine ⟨_, rfl, fun K hK => ?_⟩
    have e2 := POF ha 2
    replace ha := Aside0.mk ha
    exact VL (.pointer (some ⟨gb421, 3, none⟩)) (hK.out _ _ ⟨PUT ha 11 hb, HM⟩)
   refine steps_cons ?_ ?_
   ·rintro b a w ⟨ha, HM⟩ hb hon hoff
    refine ⟨_, rfl, fun K hK => ?_⟩
    obtain ⟨hcz37_0, hcz37_1, hcz37_2, hcz37_3, hcz37_4, hfz37_0, hfz37_1, hfz37_2, hfz37_3, hfz37_4⟩ := bk5 (HM.bx 0 rfl)
    have e34 := PON ha 11 (hon 11 (by kernel_rfl))
    replace ha := Aside0.mk ha
    exact VL (.slice A0_3 l0_3.length c0_3) (hK.out _ _ ⟨PUT ha 12 hb, HM⟩)
   refine steps_cons ?_ ?_
   ·rintro b a w ⟨ha, HM⟩ hb hon hoff
    refine ⟨_, rfl, fun K hK => ?_⟩
    have e35 := PON ha 12 (hon 12 (by kernel_rfl))
    replace ha := Aside0.mk ha
    exact VL (.int .i64 (l0_3.length : Int)) (hK.out _ _ ⟨PUT ha 13 hb, HM⟩)
   refine steps_cons ?_ ?_
   ·rintro b a w ⟨ha, HM⟩ hb hon hoff
    refine ⟨_, rfl, fun K hK => ?_⟩
    have e33 := PON ha 10 (hon 10 (by kernel_rfl))
    have e36 := PON ha 13 (hon 13 (by kernel_rfl))
    replace ha := Aside0.mk ha
    exact VL (.int .i64 (wrap64 ((l0_2.length : Int) + (l0_3.length : Int)))) (hK.out _ _ ⟨PUT ha 14 hb, HM⟩)
   refine steps_cons ?_ ?_
   ·rintro b a w ⟨ha, HM⟩ hb hon hoff
    refine ⟨_, rfl, fun K hK => ?_⟩
    have e30 := PON ha 7 (hon 7 (by kernel_rfl))
    have e37 := PON ha 14 (hon 14 (by kernel_rfl))
    replace ha := Aside0.mk ha
    exact VL (.bool (decide ((wrap64 ((t436.length : Int) + (t439.length : Int))) < (wrap64 ((l0_2.length : Int) + (l0_3.length : Int)))))) (hK.out _ _ ⟨PUT ha 15 hb, HM⟩)
   refine steps_cons ?_ ?_
   ·rintro b a w ⟨ha, HM⟩ hb hon hoff
    refine ⟨_, rfl, fun K hK => ?_⟩
    replace HM := HM.sF 1 rfl hb
    have e4 := POF ha 4
    have e23 := PON ha 0 (hon 0 (by kernel_rfl))
    replace ha := Aside0.mk ha
    refine ST (eS 1 4 0 [.int .i64 t424, .int .i64 t425, .slice Xo20 t436.length ko20, .slice Xo25 t439.length ko25, .slice Xo15 t432.length ko15] HM rfl rfl ?_ (hp := (eval_of e4)) (hx := (by rw [eval_of e23]; rfl)))
    clear HM
    intro w38 HM
    exact hK.out _ _ ⟨PUS ha, (HM).pick [0, 1, 2, 3, 4, 5, 6, 7]⟩
   refine steps_cons ?_ ?_
   ·rintro b a w ⟨ha, HM⟩ hb hon hoff
    refine ⟨_, rfl, fun K hK => ?_⟩
    have e38 := PON ha 15 (hon 15 (by kernel_rfl))
    replace ha := Aside0.mk ha
    exact VL (.bool (decide ((wrap64 ((t436.length : Int) + (t439.length : Int))) < (wrap64 ((l0_2.length : Int) + (l0_3.length : Int)))))) (hK.out _ _ ⟨PUT ha 16 hb, HM⟩)
   exact steps_nil
  rintro _ w39 ⟨rfl, HM⟩
  replace HM := HM.sT 1 rfl rfl
  simp only [putSel, if_true, Act.put, List.setIfInBounds_toArray, List.set_cons_zero, List.set_cons_succ, gt_iff_lt, ge_iff_le]
  simp only [Option.some.injEq, Prod.mk.injEq] at H
  obtain ⟨rfl, rfl, rfl, rfl, rfl, rfl⟩ := H
  go_wp2
  refine bodyPost_ret (results_ct rfl _ _ gb422 32 #[.int .i64 t424, .int .i64 t425, .slice Xo20 t436.length ko20, .slice Xo25 t439.length ko25, .slice Xo15 t432.length ko15] (0, 0) _ rfl (HM.bx 1 rfl) Try.underlying32 rfl (by kernel_rfl)) rfl ?_
  exact ⟨_, _, _, ER, (MD HM).pick [6, 7, 4]⟩
 ·subst c8
  simp only [Option.some.injEq, Prod.mk.injEq] at H
  obtain ⟨rfl, rfl, rfl, rfl, rfl, rfl⟩ := H
  go_wp2_with (first | ((with_reducible refine gate_st (p := 4) rfl ?_); refine pS 1 4 0 [.int .i64 0, .int .i64 0, .slice none 0 0, .slice none 0 0, .slice none 0 0] HM rfl rfl ?_; clear HM; intro w40 HM; replace HM := HM.nl k95 95; replace HM := HM.nl k95 95; replace HM := HM.nl (Kd.int .i64) 3))
  refine bodyPost_ret (results_ct rfl _ _ gb422 32 #[.int .i64 0, .int .i64 0, .slice none 0 0, .slice none 0 0, .slice none 0 0] (0, 0) _ rfl (HM.bx 1 rfl) Try.underlying32 rfl (by kernel_rfl)) rfl ?_
  exact ⟨_, _, _, ER, (MD HM).pick [2, 3, 4]⟩
mutual
def spec_OpDo.j0 : Nat → Bool → Int → Int → List (S95) → List (S95) → List Int → Int → ByteArray → ByteArray → Option (Int × Int × (List (S95)) × (List (S95)) × List Int × Bool × ByteArray × ByteArray × Bool)
 | 0, _, _, _, _, _, _, _, _, _ => none
 | k + 1, x25, x446000, x446001, x446002, x446003, x446004, x447000, x447001, x447002 => if x25 = true then (some (0, 0, ([] : List (S95)), ([] : List (S95)), ([] : List Int), false, (⟨#[]⟩ : ByteArray), (⟨#[]⟩ : ByteArray), false)) else (if x447000 = 1 then ((spec_Get.f k x446000 x446001 x446002 x446003 x446004 x447001).bind fun bt451 => (some (bt451.1, bt451.2.1, bt451.2.2.1, bt451.2.2.2.1, bt451.2.2.2.2.1, bt451.2.2.2.2.2.2, bt451.2.2.2.2.2.1, (⟨#[]⟩ : ByteArray), true))) else (if x447000 = 2 then ((spec_Put.f k x446000 x446001 x446002 x446003 x446004 x447001 x447002).bind fun bt465 => (spec_OpDo.l0 k bt465.2.2.2.2.2.1 (bt465.2.2.2.2.2.1.length : Int) 0 bt465.1 bt465.2.1 bt465.2.2.1 bt465.2.2.2.1 bt465.2.2.2.2.1 true (⟨#[]⟩ : ByteArray) (⟨#[]⟩ : ByteArray))) else ((spec_Drop.f k x446000 x446001 x446002 x446003 x446004 x447001).bind fun bt483 => (some (bt483.1, bt483.2.1, bt483.2.2.1, bt483.2.2.2.1, bt483.2.2.2.2.1, bt483.2.2.2.2.2, (⟨#[]⟩ : ByteArray), (⟨#[]⟩ : ByteArray), true)))))
def spec_OpDo.l0 : Nat → List ByteArray → Int → Int → Int → Int → List (S95) → List (S95) → List Int → Bool → ByteArray → ByteArray → Option (Int × Int × (List (S95)) × (List (S95)) × List Int × Bool × ByteArray × ByteArray × Bool)
 | 0, _, _, _, _, _, _, _, _, _, _, _ => none
 | k + 1, x57, x58, x59, x481000, x481001, x481002, x481003, x481004, x482000, x482001, x482002 => if x59 < x58 then (if 0 ≤ x59 then (if x59 < (x57.length : Int) then (spec_OpDo.l0 k x57 x58 (wrap64 (x59 + 1)) x481000 x481001 x481002 x481003 x481004 x482000 x482001 (rdOf ByteArray.empty x57 x59)) else (none)) else (none)) else (some (x481000, x481001, x481002, x481003, x481004, x482000, x482001, x482002, true))
end
def spec_OpDo.f (k : Nat) (a0_0 : Int) (a0_1 : Int) (l0_2 : List (S95)) (l0_3 : List (S95)) (l0_4 : List Int) (a1_0 : Int) (a1_1 : ByteArray) (a1_2 : ByteArray) : Option (Int × Int × (List (S95)) × (List (S95)) × List Int × Bool × ByteArray × ByteArray × Bool) := (spec_ThreeOk.f k a0_0 a0_1 l0_2 l0_3 l0_4).bind fun t449 => (if t449 = true then ((spec_OpOk.f k a1_0 a1_1 a1_2).bind fun t450 => (spec_OpDo.j0 k (!t450) a0_0 a0_1 l0_2 l0_3 l0_4 a1_0 a1_1 a1_2)) else (spec_OpDo.j0 k true a0_0 a0_1 l0_2 l0_3 l0_4 a1_0 a1_1 a1_2))
theorem spec_OpDo.mono_l : ∀ k, (∀ y0 y1 y2 y3 y4 y5 y6 y7 y8, LeO (spec_OpDo.j0 k y0 y1 y2 y3 y4 y5 y6 y7 y8) (spec_OpDo.j0 (k + 1) y0 y1 y2 y3 y4 y5 y6 y7 y8)) ∧ (∀ y0 y1 y2 y3 y4 y5 y6 y7 y8 y9 y10, LeO (spec_OpDo.l0 k y0 y1 y2 y3 y4 y5 y6 y7 y8 y9 y10) (spec_OpDo.l0 (k + 1) y0 y1 y2 y3 y4 y5 y6 y7 y8 y9 y10))
 | 0 => ⟨fun _ _ _ _ _ _ _ _ _ r h => by simp [spec_OpDo.j0] at h, fun _ _ _ _ _ _ _ _ _ _ _ r h => by simp [spec_OpDo.l0] at h⟩
 | k + 1 => by
  obtain ⟨ih0, ih1⟩ := spec_OpDo.mono_l k
  refine ⟨?_, ?_⟩
  ·intro y0 y1 y2 y3 y4 y5 y6 y7 y8
   unfold spec_OpDo.j0
   repeat' first | (with_reducible first | exact ih0 _ _ _ _ _ _ _ _ _ | exact ih1 _ _ _ _ _ _ _ _ _ _ _ | exact spec_Drop.mono _ _ _ _ _ _ _ | exact spec_Get.mono _ _ _ _ _ _ _ | exact spec_OpOk.mono _ _ _ _ | exact spec_Put.mono _ _ _ _ _ _ _ _ | exact spec_ThreeOk.mono _ _ _ _ _ _ | exact LeO.refl _ | exact LeO.none _ | refine LeO.ite ?_ ?_ | refine LeO.bind ?_ (fun _ => ?_)) | exact ih0 _ _ _ _ _ _ _ _ _ | exact ih1 _ _ _ _ _ _ _ _ _ _ _ | exact spec_Drop.mono _ _ _ _ _ _ _ | exact spec_Get.mono _ _ _ _ _ _ _ | exact spec_OpOk.mono _ _ _ _ | exact spec_Put.mono _ _ _ _ _ _ _ _ | exact spec_ThreeOk.mono _ _ _ _ _ _ | exact LeO.none _ | refine LeO.ite ?_ ?_ | refine LeO.bind ?_ (fun _ => ?_)
  ·intro y0 y1 y2 y3 y4 y5 y6 y7 y8 y9 y10
   unfold spec_OpDo.l0
   repeat' first | (with_reducible first | exact ih0 _ _ _ _ _ _ _ _ _ | exact ih1 _ _ _ _ _ _ _ _ _ _ _ | exact spec_Drop.mono _ _ _ _ _ _ _ | exact spec_Get.mono _ _ _ _ _ _ _ | exact spec_OpOk.mono _ _ _ _ | exact spec_Put.mono _ _ _ _ _ _ _ _ | exact spec_ThreeOk.mono _ _ _ _ _ _ | exact LeO.refl _ | exact LeO.none _ | refine LeO.ite ?_ ?_ | refine LeO.bind ?_ (fun _ => ?_)) | exact ih0 _ _ _ _ _ _ _ _ _ | exact ih1 _ _ _ _ _ _ _ _ _ _ _ | exact spec_Drop.mono _ _ _ _ _ _ _ | exact spec_Get.mono _ _ _ _ _ _ _ | exact spec_OpOk.mono _ _ _ _ | exact spec_Put.mono _ _ _ _ _ _ _ _ | exact spec_ThreeOk.mono _ _ _ _ _ _ | exact LeO.none _ | refine LeO.ite ?_ ?_ | refine LeO.bind ?_ (fun _ => ?_)
theorem spec_OpDo.mono : ∀ a0 a1 a2 a3 a4 a5 a6 a7 k, LeO (spec_OpDo.f k a0 a1 a2 a3 a4 a5 a6 a7) (spec_OpDo.f (k + 1) a0 a1 a2 a3 a4 a5 a6 a7) := by
 intro a0 a1 a2 a3 a4 a5 a6 a7 k
 obtain ⟨ih0, ih1⟩ := spec_OpDo.mono_l k
 unfold spec_OpDo.f
 repeat' first | (with_reducible first | exact ih0 _ _ _ _ _ _ _ _ _ | exact ih1 _ _ _ _ _ _ _ _ _ _ _ | exact spec_Drop.mono _ _ _ _ _ _ _ | exact spec_Get.mono _ _ _ _ _ _ _ | exact spec_OpOk.mono _ _ _ _ | exact spec_Put.mono _ _ _ _ _ _ _ _ | exact spec_ThreeOk.mono _ _ _ _ _ _ | exact LeO.refl _ | exact LeO.none _ | refine LeO.ite ?_ ?_ | refine LeO.bind ?_ (fun _ => ?_)) | exact ih0 _ _ _ _ _ _ _ _ _ | exact ih1 _ _ _ _ _ _ _ _ _ _ _ | exact spec_Drop.mono _ _ _ _ _ _ _ | exact spec_Get.mono _ _ _ _ _ _ _ | exact spec_OpOk.mono _ _ _ _ | exact spec_Put.mono _ _ _ _ _ _ _ _ | exact spec_ThreeOk.mono _ _ _ _ _ _ | exact LeO.none _ | refine LeO.ite ?_ ?_ | refine LeO.bind ?_ (fun _ => ?_)
def spec_OpDo.T15 : Bool × List (List Nat × List Nat) := (true, [([], []), ([], []), ([0, 0], [0]), ([1, 2, 0, 1, 2], [1]), ([3, 0, 1, 2, 3], [])])
def spec_OpDo.B15 : List Nat := [0, 0, 1, 7, 15]
theorem spec_OpDo.tab15 : rtab .any (opsOf Try.f8 15) = spec_OpDo.T15 := by kernel_rfl
theorem spec_OpDo.bits15 : waitsOk spec_OpDo.T15.2 spec_OpDo.B15 = true := by kernel_rfl
set_option maxHeartbeats 8000000 in
set_option maxRecDepth 100000 in
theorem spec_OpDo.calls (k : Nat) (a0_0 : Int) (a0_1 : Int) (A0_2 : Option Addr) (c0_2 : Nat) (l0_2 : List (S95)) (A0_3 : Option Addr) (c0_3 : Nat) (l0_3 : List (S95)) (A0_4 : Option Addr) (c0_4 : Nat) (l0_4 : List Int) (a1_0 : Int) (a1_1 : ByteArray) (a1_2 : ByteArray) (r1 : Int) (r2 : Int) (r3 : List (S95)) (r4 : List (S95)) (r5 : List Int) (r6 : Bool) (r7 : ByteArray) (r8 : ByteArray) (r9 : Bool) (w : World) (hr0_2 : Kd.C k95 w A0_2 l0_2.length l0_2) (hc0_2 : l0_2.length ≤ c0_2) (hr0_3 : Kd.C k95 w A0_3 l0_3.length l0_3) (hc0_3 : l0_3.length ≤ c0_3) (hr0_4 : Kd.C (Kd.int .i64) w A0_4 l0_4.length l0_4) (hc0_4 : l0_4.length ≤ c0_4) (h : spec_OpDo.f k a0_0 a0_1 l0_2 l0_3 l0_4 a1_0 a1_1 a1_2 = some (r1, r2, r3, r4, r5, r6, r7, r8, r9)) :
  Calls Try.prog 8 #[.agg #[.int .i64 a0_0, .int .i64 a0_1, .slice A0_2 l0_2.length c0_2, .slice A0_3 l0_3.length c0_3, .slice A0_4 l0_4.length c0_4], .agg #[.int .i64 a1_0, .string a1_1, .string a1_2]] w fun e w' => ∃ v2_ v3_ v4_ : Value, e = .returned (.tuple #[.agg #[.int .i64 r1, .int .i64 r2, v2_, v3_, v4_], .agg #[.bool r6, .string r7, .string r8], .bool r9]) ∧ Mem w [] w' [rowR k95 95 v2_ r3, rowR k95 95 v3_ r4, row (Kd.int .i64) 3 v4_ r5] := by
 have hu32 := Try.underlying32
 have hu38 := Try.underlying38
 have hu34 := Try.underlying34
 have HR0_2 := Aside0.mk hr0_2
 have HC0_2 := Aside0.mk hc0_2
 clear hr0_2 hc0_2
 have HR0_3 := Aside0.mk hr0_3
 have HC0_3 := Aside0.mk hc0_3
 clear hr0_3 hc0_3
 have HR0_4 := Aside0.mk hr0_4
 have HC0_4 := Aside0.mk hc0_4
 clear hr0_4 hc0_4
 have HM := Mem.nil w
 have H := h
 clear h
 unfold spec_OpDo.f at H
 go_enter Try.func8, Try.ntmps8
 have HC7 := Aside0.mk H
 clear H
 go_upto_region 1 with (first | ((with_reducible refine gate_dst (N := 2) rfl ?_); refine pB 2 32 [.int .i64 a0_0, .int .i64 a0_1, .slice A0_2 l0_2.length c0_2, .slice A0_3 l0_3.length c0_3, .slice A0_4 l0_4.length c0_4] HM rfl ?_; clear HM; intro gb445 w3 HM) | ((with_reducible refine gate_dst (N := 3) rfl ?_); refine pB 3 38 [.int .i64 a1_0, .string a1_1, .string a1_2] HM rfl ?_; clear HM; intro gb446 w4 HM) | ((with_reducible refine gate_dst (N := 4) rfl ?_); refine pB 4 32 [.int .i64 0, .int .i64 0, .slice none 0 0, .slice none 0 0, .slice none 0 0] HM rfl ?_; clear HM; intro gb447 w5 HM) | ((with_reducible refine gate_dst (N := 5) rfl ?_); refine pB 5 34 [.bool false, .string (⟨#[]⟩ : ByteArray), .string (⟨#[]⟩ : ByteArray)] HM rfl ?_; clear HM; intro gb448 w6 HM))
 replace HM := nzM HM
 go_cut [25] (fun v25 wc => ∃ (kq : Nat) (x25_6 : Bool), v25 = .bool x25_6 ∧ Aside0 (spec_OpDo.j0 kq x25_6 a0_0 a0_1 l0_2 l0_3 l0_4 a1_0 a1_1 a1_2 = some (r1, r2, r3, r4, r5, r6, r7, r8, r9)) ∧ Aside0 (kq ≤ k) ∧ Mem w [] wc [box 32 gb445 [.int .i64 a0_0, .int .i64 a0_1, .slice A0_2 l0_2.length c0_2, .slice A0_3 l0_3.length c0_3, .slice A0_4 l0_4.length c0_4], box 38 gb446 [.int .i64 a1_0, .string a1_1, .string a1_2], box 32 gb447 [.int .i64 0, .int .i64 0, .slice none 0 0, .slice none 0 0, .slice none 0 0], box 34 gb448 [.bool false, .string (⟨#[]⟩ : ByteArray), .string (⟨#[]⟩ : ByteArray)]])
 case first =>
  have H := HC7.out
  clear HC7
  replace H := BN H; obtain ⟨t449, A9, H⟩ := H
  replace H := IB H
  rcases H with ⟨c11, H⟩ | ⟨c11, H⟩
  ·subst c11
   replace H := BN H; obtain ⟨t450, A13, H⟩ := H
   have H' := Aside0.mk H
   clear H
   obtain ⟨hcz8_0, hcz8_1, hcz8_2, hcz8_3, hcz8_4, hfz8_0, hfz8_1, hfz8_2, hfz8_3, hfz8_4⟩ := bk5 (HM.bx 0 rfl)
   go_wp2_with (first | ((with_reducible refine gate_callee (f := 32) rfl ?_); refine pC (some 19) rfl #[.agg #[.int .i64 a0_0, .int .i64 a0_1, .slice A0_2 l0_2.length c0_2, .slice A0_3 l0_3.length c0_3, .slice A0_4 l0_4.length c0_4]] rfl Try.func32 (spec_ThreeOk.calls k a0_0 a0_1 _ _ l0_2 _ _ l0_3 _ _ l0_4 true _ (HM.came HR0_2.out) HC0_2.out (HM.came HR0_3.out) HC0_3.out (HM.came HR0_4.out) HC0_4.out A9.out) ?_; rintro e w10 ⟨rfl, hR⟩; refine ⟨_, rfl, ?_⟩; replace HM := HM.call hR; clear hR; obtain ⟨hcz12_0, hcz12_1, hcz12_2, hfz12_0, hfz12_1, hfz12_2⟩ := bk3 (HM.bx 1 rfl)) | ((with_reducible refine gate_callee (f := 33) rfl ?_); refine pC (some 23) rfl #[.agg #[.int .i64 a1_0, .string a1_1, .string a1_2]] rfl Try.func33 (spec_OpOk.calls k a1_0 a1_1 a1_2 t450 _ A13.out) ?_; rintro e w14 ⟨rfl, hR⟩; refine ⟨_, rfl, ?_⟩; replace HM := HM.call hR; clear hR))
   go_meet
   case rel => exact ⟨_, (!t450), RS, H', ⟨by first | omega | exact Nat.le_refl _⟩, (MD HM).pick [0, 1, 2, 3]⟩
  ·subst c11
   have H' := Aside0.mk H
   clear H
   obtain ⟨hcz8_0, hcz8_1, hcz8_2, hcz8_3, hcz8_4, hfz8_0, hfz8_1, hfz8_2, hfz8_3, hfz8_4⟩ := bk5 (HM.bx 0 rfl)
   go_wp2_with (first | ((with_reducible refine gate_callee (f := 32) rfl ?_); refine pC (some 19) rfl #[.agg #[.int .i64 a0_0, .int .i64 a0_1, .slice A0_2 l0_2.length c0_2, .slice A0_3 l0_3.length c0_3, .slice A0_4 l0_4.length c0_4]] rfl Try.func32 (spec_ThreeOk.calls k a0_0 a0_1 _ _ l0_2 _ _ l0_3 _ _ l0_4 false _ (HM.came HR0_2.out) HC0_2.out (HM.came HR0_3.out) HC0_3.out (HM.came HR0_4.out) HC0_4.out A9.out) ?_; rintro e w10 ⟨rfl, hR⟩; refine ⟨_, rfl, ?_⟩; replace HM := HM.call hR; clear hR))
   go_meet
   case rel => exact ⟨_, (true), RS, H', ⟨by first | omega | exact Nat.le_refl _⟩, (MD HM).pick [0, 1, 2, 3]⟩
 case rest =>
  clear HC7 HM
  obtain ⟨kq, x25_6, rfl, HA, HJ6, HM⟩ := hcut
  cases kq with
  | zero => exact absurd HA.out (by simp [spec_OpDo.j0])
  | succ kj6 =>
   have H := HA.out
   clear HA
   simp only [spec_OpDo.j0] at H
   go_upto_if 25 with (fail)
   replace H := IB H
   rcases H with ⟨c15, H⟩ | ⟨c15, H⟩
   ·subst c15
    simp only [Option.some.injEq, Prod.mk.injEq] at H
    obtain ⟨rfl, rfl, rfl, rfl, rfl, rfl, rfl, rfl, rfl⟩ := H
    go_wp2_with (first | ((with_reducible refine gate_st (p := 4) rfl ?_); refine pS 2 4 0 [.int .i64 0, .int .i64 0, .slice none 0 0, .slice none 0 0, .slice none 0 0] HM rfl rfl ?_; clear HM; intro w16 HM) | ((with_reducible refine gate_st (p := 5) rfl ?_); refine pS 3 5 0 [.bool false, .string (⟨#[]⟩ : ByteArray), .string (⟨#[]⟩ : ByteArray)] HM rfl rfl ?_; clear HM; intro w17 HM; replace HM := HM.nl k95 95; replace HM := HM.nl k95 95; replace HM := HM.nl (Kd.int .i64) 3; replace HM := HM.toQ 6 rfl))
    refine bodyPost_ret (results_list (rs := [.cell 4 32, .cell 5 34, .tmp 6]) rfl (by simp) (.cell gb447 32 #[.int .i64 0, .int .i64 0, .slice none 0 0, .slice none 0 0, .slice none 0 0] (0, 0) _ rfl (HM.bx 2 rfl) Try.underlying32 rfl (by kernel_rfl) (.cell gb448 34 #[.bool false, .string (⟨#[]⟩ : ByteArray), .string (⟨#[]⟩ : ByteArray)] (0, 0) _ rfl (HM.bx 3 rfl) Try.underlying34 rfl (by kernel_rfl) (.tmp .nil)))) rfl ?_
    exact ⟨_, _, _, ER, (MD HM).pick [4, 5, 6]⟩
   ·subst c15
    obtain ⟨hcz18_0, hcz18_1, hcz18_2, hfz18_0, hfz18_1, hfz18_2⟩ := bk3 (HM.bx 1 rfl)
    go_upto_if 30 with (fail)
    replace H := IT H; rcases H with ⟨c19, H⟩ | ⟨c19, H⟩
    ·have c19b0 : (a1_0 == 1) = true := beq_iff_eq.mpr c19
     have c19b1 : (a1_0 != 1) = false := bne_eq_false_iff_eq.mpr c19
     clear c19
     (first | rw [c19b0] | (simp only [i64_w, i32_w]; rw [c19b0]) | skip)
     replace H := BN H; obtain ⟨⟨t451, t452, t453, t456, t459, t462, t463⟩, A21, H⟩ := H
     simp only [Option.some.injEq, Prod.mk.injEq] at H
     obtain ⟨rfl, rfl, rfl, rfl, rfl, rfl, rfl, rfl, rfl⟩ := H
     obtain ⟨hcz20_0, hcz20_1, hcz20_2, hcz20_3, hcz20_4, hfz20_0, hfz20_1, hfz20_2, hfz20_3, hfz20_4⟩ := bk5 (HM.bx 0 rfl)
     go_wp2_with (first | ((with_reducible refine gate_callee (f := 34) rfl ?_); refine pC (some 36) rfl #[.agg #[.int .i64 a0_0, .int .i64 a0_1, .slice A0_2 l0_2.length c0_2, .slice A0_3 l0_3.length c0_3, .slice A0_4 l0_4.length c0_4], .string a1_1] rfl Try.func34 (spec_Get.calls kj6 a0_0 a0_1 _ _ l0_2 _ _ l0_3 _ _ l0_4 a1_1 t451 t452 t453 t456 t459 t462 t463 _ (HM.came HR0_2.out) HC0_2.out (HM.came HR0_3.out) HC0_3.out (HM.came HR0_4.out) HC0_4.out A21.out) ?_; rintro e w22 ⟨v454, v457, v460, rfl, hR⟩; refine ⟨_, rfl, ?_⟩; replace HM := HM.call hR; clear hR) | ((with_reducible refine gate_dst (N := 7) rfl ?_); refine pB 7 32 [.int .i64 0, .int .i64 0, .slice none 0 0, .slice none 0 0, .slice none 0 0] HM rfl ?_; clear HM; intro gb464 w23 HM; obtain ⟨Xo24, ko24, eo24⟩ := HM.rdR 4 rfl; subst eo24; obtain ⟨Xo25, ko25, eo25⟩ := HM.rdR 5 rfl; subst eo25; obtain ⟨Xo26, ko26, eo26⟩ := HM.rdR 6 rfl; subst eo26) | ((with_reducible refine gate_st (p := 7) rfl ?_); refine pS 7 7 0 [.int .i64 t451, .int .i64 t452, .slice Xo24 t453.length ko24, .slice Xo25 t456.length ko25, .slice Xo26 t459.length ko26] HM rfl rfl ?_; clear HM; intro w27 HM; obtain ⟨hcz28_0, hcz28_1, hcz28_2, hcz28_3, hcz28_4, hfz28_0, hfz28_1, hfz28_2, hfz28_3, hfz28_4⟩ := bk5 (HM.bx 7 rfl)) | ((with_reducible refine gate_st (p := 4) rfl ?_); refine pS 2 4 0 [.int .i64 t451, .int .i64 t452, .slice Xo24 t453.length ko24, .slice Xo25 t456.length ko25, .slice Xo26 t459.length ko26] HM rfl rfl ?_; clear HM; intro w29 HM) | ((with_reducible refine gate_st (p := 5) rfl ?_); refine pS 3 5 0 [.bool t463, .string t462, .string (⟨#[]⟩ : ByteArray)] HM rfl rfl ?_; clear HM; intro w30 HM; replace HM := HM.toQ 6 rfl))
     refine bodyPost_ret (results_list (rs := [.cell 4 32, .cell 5 34, .tmp 6]) rfl (by simp) (.cell gb447 32 #[.int .i64 t451, .int .i64 t452, .slice Xo24 t453.length ko24, .slice Xo25 t456.length ko25, .slice Xo26 t459.length ko26] (0, 0) _ rfl (HM.bx 2 rfl) Try.underlying32 rfl (by kernel_rfl) (.cell gb448 34 #[.bool t463, .string t462, .string (⟨#[]⟩ : ByteArray)] (0, 0) _ rfl (HM.bx 3 rfl) Try.underlying34 rfl (by kernel_rfl) (.tmp .nil)))) rfl ?_
     exact ⟨_, _, _, ER, (MD HM).pick [4, 5, 6]⟩
    ·have c19b0 : (a1_0 == 1) = false := beq_eq_false_iff_ne.mpr c19
     have c19b1 : (a1_0 != 1) = true := bne_iff_ne.mpr c19
     (first | rw [c19b0] | (simp only [i64_w, i32_w]; rw [c19b0]) | skip)
     go_upto_if 44 with (fail)
     replace H := IT H; rcases H with ⟨c31, H⟩ | ⟨c31, H⟩
     ·have c31b0 : (a1_0 == 2) = true := beq_iff_eq.mpr c31
      have c31b1 : (a1_0 != 2) = false := bne_eq_false_iff_eq.mpr c31
      clear c31
      (first | rw [c31b0] | (simp only [i64_w, i32_w]; rw [c31b0]) | skip)
      replace H := BN H; obtain ⟨⟨t465, t466, t467, t470, t473, t476, t479⟩, A33, H⟩ := H
      have H' := Aside0.mk H
      clear H
      obtain ⟨hcz32_0, hcz32_1, hcz32_2, hcz32_3, hcz32_4, hfz32_0, hfz32_1, hfz32_2, hfz32_3, hfz32_4⟩ := bk5 (HM.bx 0 rfl)
      go_wp2_with (first | ((with_reducible refine gate_callee (f := 35) rfl ?_); refine pC (some 52) rfl #[.agg #[.int .i64 a0_0, .int .i64 a0_1, .slice A0_2 l0_2.length c0_2, .slice A0_3 l0_3.length c0_3, .slice A0_4 l0_4.length c0_4], .string a1_1, .string a1_2] rfl Try.func35 (spec_Put.calls kj6 a0_0 a0_1 _ _ l0_2 _ _ l0_3 _ _ l0_4 a1_1 a1_2 t465 t466 t467 t470 t473 t476 t479 _ (HM.came HR0_2.out) HC0_2.out (HM.came HR0_3.out) HC0_3.out (HM.came HR0_4.out) HC0_4.out A33.out) ?_; rintro e w34 ⟨v468, v471, v474, v477, rfl, hR⟩; refine ⟨_, rfl, ?_⟩; replace HM := HM.call hR; clear hR) | ((with_reducible refine gate_dst (N := 10) rfl ?_); refine pB 10 32 [.int .i64 0, .int .i64 0, .slice none 0 0, .slice none 0 0, .slice none 0 0] HM rfl ?_; clear HM; intro gb480 w35 HM; obtain ⟨Xo36, ko36, eo36⟩ := HM.rdR 4 rfl; subst eo36; obtain ⟨Xo37, ko37, eo37⟩ := HM.rdR 5 rfl; subst eo37; obtain ⟨Xo38, ko38, eo38⟩ := HM.rd 6 rfl; subst eo38) | ((with_reducible refine gate_st (p := 10) rfl ?_); refine pS 8 10 0 [.int .i64 t465, .int .i64 t466, .slice Xo36 t467.length ko36, .slice Xo37 t470.length ko37, .slice Xo38 t473.length ko38] HM rfl rfl ?_; clear HM; intro w39 HM) | ((with_reducible refine gate_dst (N := 13) rfl ?_); refine pB 13 34 [.bool false, .string (⟨#[]⟩ : ByteArray), .string (⟨#[]⟩ : ByteArray)] HM rfl ?_; clear HM; intro gb481 w40 HM) | ((with_reducible refine gate_st (p := 13) rfl ?_); refine pS 9 13 0 [.bool true, .string (⟨#[]⟩ : ByteArray), .string (⟨#[]⟩ : ByteArray)] HM rfl rfl ?_; clear HM; intro w41 HM; obtain ⟨Xo42, ko42, eo42⟩ := HM.rdR 7 rfl; subst eo42))
      go_loopg [59] kj6 (fun kq v59 w' => ∃ (x59_2 : Int) (x482002_2 : ByteArray), v59 = .int .i64 x59_2 ∧ Aside0 (spec_OpDo.l0 kq t476 (t476.length : Int) x59_2 t465 t466 t467 t470 t473 true (⟨#[]⟩ : ByteArray) x482002_2 = some (r1, r2, r3, r4, r5, r6, r7, r8, r9)) ∧ Aside0 (kq ≤ kj6) ∧ Mem w [] w' [rowR Kd.string 9 (.slice Xo42 t476.length ko42) t476, rowR k95 95 (.slice Xo36 t467.length ko36) t467, rowR k95 95 (.slice Xo37 t470.length ko37) t470, row (Kd.int .i64) 3 (.slice Xo38 t473.length ko38) t473, box 32 gb445 [.int .i64 a0_0, .int .i64 a0_1, .slice A0_2 l0_2.length c0_2, .slice A0_3 l0_3.length c0_3, .slice A0_4 l0_4.length c0_4], box 38 gb446 [.int .i64 a1_0, .string a1_1, .string a1_2], box 32 gb447 [.int .i64 0, .int .i64 0, .slice none 0 0, .slice none 0 0, .slice none 0 0], box 34 gb448 [.bool false, .string (⟨#[]⟩ : ByteArray), .string (⟨#[]⟩ : ByteArray)], box 32 gb480 [.int .i64 t465, .int .i64 t466, (.slice Xo36 t467.length ko36), (.slice Xo37 t470.length ko37), (.slice Xo38 t473.length ko38)], box 34 gb481 [.bool true, .string (⟨#[]⟩ : ByteArray), .string x482002_2]])
      case atStart => exact ⟨(0), ((⟨#[]⟩ : ByteArray)), RS, H', ⟨Nat.le_refl _⟩, (MD HM).pick [7, 4, 5, 6, 0, 1, 2, 3, 8, 9]⟩
      case round =>
       clear H' HM
       obtain ⟨x59_2, x482002_2, rfl, HA, HK2, HM⟩ := hrel
       cases gk with
       | zero => exact absurd HA.out (by simp [spec_OpDo.l0])
       | succ k2 =>
        have H := HA.out
        clear HA
        simp only [spec_OpDo.l0] at H
        go_upto_if 60 with (fail)
        replace H := IT H; rcases H with ⟨c43, H⟩ | ⟨c43, H⟩
        ·have c43b0 : decide (x59_2 < (t476.length : Int)) = true := decide_eq_true c43
         clear c43
         (first | rw [c43b0] | (simp only [i64_w, i32_w]; rw [c43b0]) | skip)
         replace H := GD H; obtain ⟨c44, H⟩ := H
         have c44b0 : decide (0 ≤ x59_2) = true := decide_eq_true c44
         clear c44
         replace H := GD H; obtain ⟨c45, H⟩ := H
         have c45b0 : decide (x59_2 < (t476.length : Int)) = true := decide_eq_true c45
         clear c45
         have H' := Aside0.mk H
         clear H
         have p482 : 0 ≤ (x59_2 : Int) := of_decide_eq_true AS
         have q482 : (x59_2 : Int) < (t476.length : Int) := of_decide_eq_true AS
         obtain ⟨ad482, e482, hx482_0⟩ := Kd.at_string (HM.CR 0 rfl).2.2 x59_2 p482 q482
         cases e482
         replace p482 := eq_true p482
         replace q482 := eq_true q482
         go_wp2_with (first | ((with_reducible refine gate_st (p := 64) rfl ?_); refine pS 9 64 2 [.string (rdOf ByteArray.empty t476 x59_2)] HM rfl rfl ?_; clear HM; intro w46 HM))
         go_roundg k2
         case measure => have := HJ6.out; have := HK2.out; omega
         case rel => exact ⟨(wrap64 (x59_2 + 1)), (rdOf ByteArray.empty t476 x59_2), RS, H', ⟨by have := HJ6.out; have := HK2.out; omega⟩, (MD HM).pick [0, 1, 2, 3, 4, 5, 6, 7, 8, 9]⟩
        ·have c43b0 : decide (x59_2 < (t476.length : Int)) = false := decide_eq_false c43
         clear c43
         (first | rw [c43b0] | (simp only [i64_w, i32_w]; rw [c43b0]) | skip)
         try go_wp2
         refine RGN 5 [0, 1, 2, 3, 4] (fun a0 b a w' => a = putSel a0 b [(0, 66, .agg #[.int .i64 t465, .int .i64 t466, .slice Xo36 t467.length ko36, .slice Xo37 t470.length ko37, .slice Xo38 t473.length ko38]), (1, 67, .agg #[.bool true, .string (⟨#[]⟩ : ByteArray), .string x482002_2]), (4, 6, .bool true)] ∧ Mem w [] w' [rowR Kd.string 9 (.slice Xo42 t476.length ko42) t476, rowR k95 95 (.slice Xo36 t467.length ko36) t467, rowR k95 95 (.slice Xo37 t470.length ko37) t470, row (Kd.int .i64) 3 (.slice Xo38 t473.length ko38) t473, box 32 gb445 [.int .i64 a0_0, .int .i64 a0_1, .slice A0_2 l0_2.length c0_2, .slice A0_3 l0_3.length c0_3, .slice A0_4 l0_4.length c0_4], box 38 gb446 [.int .i64 a1_0, .string a1_1, .string a1_2], sel (b 2) (box 32 gb447 [.int .i64 t465, .int .i64 t466, .slice Xo36 t467.length ko36, .slice Xo37 t470.length ko37, .slice Xo38 t473.length ko38]) (box 32 gb447 [.int .i64 0, .int .i64 0, .slice none 0 0, .slice none 0 0, .slice none 0 0]), sel (b 3) (box 34 gb448 [.bool true, .string (⟨#[]⟩ : ByteArray), .string x482002_2]) (box 34 gb448 [.bool false, .string (⟨#[]⟩ : ByteArray), .string (⟨#[]⟩ : ByteArray)]), box 32 gb480 [.int .i64 t465, .int .i64 t466, .slice Xo36 t467.length ko36, .slice Xo37 t470.length ko37, .slice Xo38 t473.length ko38], box 34 gb481 [.bool true, .string (⟨#[]⟩ : ByteArray), .string x482002_2]]) spec_OpDo.tab15 spec_OpDo.bits15 ?_ ?_ ?_
         ·exact ⟨PS0' rfl _, (HM.drew).pick [0, 1, 2, 3, 4, 5, 6, 7, 8, 9]⟩
         ·clear HM
          refine steps_cons ?_ ?_
          ·rintro b a w ⟨ha, HM⟩ hb hon hoff
           refine ⟨_, rfl, fun K hK => ?_⟩
           obtain ⟨hcz51_0, hcz51_1, hcz51_2, hcz51_3, hcz51_4, hfz51_0, hfz51_1, hfz51_2, hfz51_3, hfz51_4⟩ := bk5 (HM.bx 8 rfl)
           have e10 := POF ha 10
           replace ha := Aside0.mk ha
           exact VL (.agg #[.int .i64 t465, .int .i64 t466, .slice Xo36 t467.length ko36, .slice Xo37 t470.length ko37, .slice Xo38 t473.length ko38]) (hK.out _ _ ⟨PUT ha 0 hb, HM⟩)
          refine steps_cons ?_ ?_
          ·rintro b a w ⟨ha, HM⟩ hb hon hoff
           refine ⟨_, rfl, fun K hK => ?_⟩
           obtain ⟨hcz52_0, hcz52_1, hcz52_2, hfz52_0, hfz52_1, hfz52_2⟩ := bk3 (HM.bx 9 rfl)
           have e13 := POF ha 13
           replace ha := Aside0.mk ha
           exact VL (.agg #[.bool true, .string (⟨#[]⟩ : ByteArray), .string x482002_2]) (hK.out _ _ ⟨PUT ha 1 hb, HM⟩)
          refine steps_cons ?_ ?_
          ·rintro b a w ⟨ha, HM⟩ hb hon hoff
           refine ⟨_, rfl, fun K hK => ?_⟩
           replace HM := HM.sF 6 rfl hb
           have e4 := POF ha 4
           have e66 := PON ha 0 (hon 0 (by kernel_rfl))
           replace ha := Aside0.mk ha
           refine ST (eS 6 4 0 [.int .i64 t465, .int .i64 t466, .slice Xo36 t467.length ko36, .slice Xo37 t470.length ko37, .slice Xo38 t473.length ko38] HM rfl rfl ?_ (hp := (eval_of e4)) (hx := (by rw [eval_of e66]; rfl)))
           clear HM
           intro w53 HM
           exact hK.out _ _ ⟨PUS ha, (HM).pick [0, 1, 2, 3, 4, 5, 6, 7, 8, 9]⟩
          refine steps_cons ?_ ?_
          ·rintro b a w ⟨ha, HM⟩ hb hon hoff
           refine ⟨_, rfl, fun K hK => ?_⟩
           replace HM := HM.sF 7 rfl hb
           have e5 := POF ha 5
           have e67 := PON ha 1 (hon 1 (by kernel_rfl))
           replace ha := Aside0.mk ha
           refine ST (eS 7 5 0 [.bool true, .string (⟨#[]⟩ : ByteArray), .string x482002_2] HM rfl rfl ?_ (hp := (eval_of e5)) (hx := (by rw [eval_of e67]; rfl)))
           clear HM
           intro w54 HM
           exact hK.out _ _ ⟨PUS ha, (HM).pick [0, 1, 2, 3, 4, 5, 6, 7, 8, 9]⟩
          refine steps_cons ?_ ?_
          ·rintro b a w ⟨ha, HM⟩ hb hon hoff
           refine ⟨_, rfl, fun K hK => ?_⟩
           replace ha := Aside0.mk ha
           exact VL (.bool true) (hK.out _ _ ⟨PUT ha 2 hb, HM⟩)
          exact steps_nil
         rintro _ w55 ⟨rfl, HM⟩
         replace HM := HM.sT 6 rfl rfl
         replace HM := HM.sT 7 rfl rfl
         simp only [putSel, if_true, Act.put, List.setIfInBounds_toArray, List.set_cons_zero, List.set_cons_succ, gt_iff_lt, ge_iff_le]
         simp only [Option.some.injEq, Prod.mk.injEq] at H
         obtain ⟨rfl, rfl, rfl, rfl, rfl, rfl, rfl, rfl, rfl⟩ := H
         go_wp2
         refine bodyPost_ret (results_list (rs := [.cell 4 32, .cell 5 34, .tmp 6]) rfl (by simp) (.cell gb447 32 #[.int .i64 t465, .int .i64 t466, .slice Xo36 t467.length ko36, .slice Xo37 t470.length ko37, .slice Xo38 t473.length ko38] (0, 0) _ rfl (HM.bx 6 rfl) Try.underlying32 rfl (by kernel_rfl) (.cell gb448 34 #[.bool true, .string (⟨#[]⟩ : ByteArray), .string x482002_2] (0, 0) _ rfl (HM.bx 7 rfl) Try.underlying34 rfl (by kernel_rfl) (.tmp .nil)))) rfl ?_
         exact ⟨_, _, _, ER, (MD HM).pick [1, 2, 3]⟩
     ·have c31b0 : (a1_0 == 2) = false := beq_eq_false_iff_ne.mpr c31
      have c31b1 : (a1_0 != 2) = true := bne_iff_ne.mpr c31
      (first | rw [c31b0] | (simp only [i64_w, i32_w]; rw [c31b0]) | skip)
      replace H := BN H; obtain ⟨⟨t483, t484, t485, t488, t491, t494⟩, A57, H⟩ := H
      simp only [Option.some.injEq, Prod.mk.injEq] at H
      obtain ⟨rfl, rfl, rfl, rfl, rfl, rfl, rfl, rfl, rfl⟩ := H
      obtain ⟨hcz56_0, hcz56_1, hcz56_2, hcz56_3, hcz56_4, hfz56_0, hfz56_1, hfz56_2, hfz56_3, hfz56_4⟩ := bk5 (HM.bx 0 rfl)
      go_wp2_with (first | ((with_reducible refine gate_callee (f := 36) rfl ?_); refine pC (some 72) rfl #[.agg #[.int .i64 a0_0, .int .i64 a0_1, .slice A0_2 l0_2.length c0_2, .slice A0_3 l0_3.length c0_3, .slice A0_4 l0_4.length c0_4], .string a1_1] rfl Try.func36 (spec_Drop.calls kj6 a0_0 a0_1 _ _ l0_2 _ _ l0_3 _ _ l0_4 a1_1 t483 t484 t485 t488 t491 t494 _ (HM.came HR0_2.out) HC0_2.out (HM.came HR0_3.out) HC0_3.out (HM.came HR0_4.out) HC0_4.out A57.out) ?_; rintro e w58 ⟨v486, v489, v492, rfl, hR⟩; refine ⟨_, rfl, ?_⟩; replace HM := HM.call hR; clear hR) | ((with_reducible refine gate_dst (N := 16) rfl ?_); refine pB 16 32 [.int .i64 0, .int .i64 0, .slice none 0 0, .slice none 0 0, .slice none 0 0] HM rfl ?_; clear HM; intro gb495 w59 HM; obtain ⟨Xo60, ko60, eo60⟩ := HM.rdR 4 rfl; subst eo60; obtain ⟨Xo61, ko61, eo61⟩ := HM.rdR 5 rfl; subst eo61; obtain ⟨Xo62, ko62, eo62⟩ := HM.rdR 6 rfl; subst eo62) | ((with_reducible refine gate_st (p := 16) rfl ?_); refine pS 7 16 0 [.int .i64 t483, .int .i64 t484, .slice Xo60 t485.length ko60, .slice Xo61 t488.length ko61, .slice Xo62 t491.length ko62] HM rfl rfl ?_; clear HM; intro w63 HM; obtain ⟨hcz64_0, hcz64_1, hcz64_2, hcz64_3, hcz64_4, hfz64_0, hfz64_1, hfz64_2, hfz64_3, hfz64_4⟩ := bk5 (HM.bx 7 rfl)) | ((with_reducible refine gate_st (p := 4) rfl ?_); refine pS 2 4 0 [.int .i64 t483, .int .i64 t484, .slice Xo60 t485.length ko60, .slice Xo61 t488.length ko61, .slice Xo62 t491.length ko62] HM rfl rfl ?_; clear HM; intro w65 HM) | ((with_reducible refine gate_st (p := 5) rfl ?_); refine pS 3 5 0 [.bool t494, .string (⟨#[]⟩ : ByteArray), .string (⟨#[]⟩ : ByteArray)] HM rfl rfl ?_; clear HM; intro w66 HM; replace HM := HM.toQ 6 rfl))
      refine bodyPost_ret (results_list (rs := [.cell 4 32, .cell 5 34, .tmp 6]) rfl (by simp) (.cell gb447 32 #[.int .i64 t483, .int .i64 t484, .slice Xo60 t485.length ko60, .slice Xo61 t488.length ko61, .slice Xo62 t491.length ko62] (0, 0) _ rfl (HM.bx 2 rfl) Try.underlying32 rfl (by kernel_rfl) (.cell gb448 34 #[.bool t494, .string (⟨#[]⟩ : ByteArray), .string (⟨#[]⟩ : ByteArray)] (0, 0) _ rfl (HM.bx 3 rfl) Try.underlying34 rfl (by kernel_rfl) (.tmp .nil)))) rfl ?_
      exact ⟨_, _, _, ER, (MD HM).pick [4, 5, 6]⟩
def laws_toItem.f (a0_0 : ByteArray) (a0_1 : ByteArray) (a0_2 : Int) : Option (ByteArray × ByteArray × Int) := some (a0_0, a0_1, a0_2)
set_option maxHeartbeats 8000000 in
set_option maxRecDepth 100000 in
theorem laws_toItem.calls (a0_0 : ByteArray) (a0_1 : ByteArray) (a0_2 : Int) (r1 : ByteArray) (r2 : ByteArray) (r3 : Int) (w : World)  (h : laws_toItem.f a0_0 a0_1 a0_2 = some (r1, r2, r3)) :
  Calls Try.prog 74 #[.agg #[.string a0_0, .string a0_1, .int .i64 a0_2]] w fun e w' => e = .returned (.agg #[.string r1, .string r2, .int .i64 r3]) ∧ Mem w [] w' [] := by
 have hu97 := Try.underlying97
 have hu95 := Try.underlying95
 have HM := Mem.nil w
 have H := h
 clear h
 unfold laws_toItem.f at H
 go_enter Try.func74, Try.ntmps74
 simp only [Option.some.injEq, Prod.mk.injEq] at H
 obtain ⟨rfl, rfl, rfl⟩ := H
 go_wp2_with (first | ((with_reducible refine gate_dst (N := 1) rfl ?_); refine pB 1 97 [.string a0_0, .string a0_1, .int .i64 a0_2] HM rfl ?_; clear HM; intro gb499 w2 HM) | ((with_reducible refine gate_dst (N := 2) rfl ?_); refine pB 2 95 [.string (⟨#[]⟩ : ByteArray), .string (⟨#[]⟩ : ByteArray), .int .i64 0] HM rfl ?_; clear HM; intro gb500 w3 HM) | ((with_reducible refine gate_dst (N := 3) rfl ?_); refine pB 3 95 [.string (⟨#[]⟩ : ByteArray), .string (⟨#[]⟩ : ByteArray), .int .i64 0] HM rfl ?_; clear HM; intro gb501 w4 HM; obtain ⟨hcz5_0, hcz5_1, hcz5_2, hfz5_0, hfz5_1, hfz5_2⟩ := bk3 (HM.bx 0 rfl)) | ((with_reducible refine gate_st (p := 6) rfl ?_); refine pS 2 6 0 [.string a0_0] HM rfl rfl ?_; clear HM; intro w6 HM; obtain ⟨hcz7_0, hcz7_1, hcz7_2, hfz7_0, hfz7_1, hfz7_2⟩ := bk3 (HM.bx 0 rfl)) | ((with_reducible refine gate_st (p := 9) rfl ?_); refine pS 2 9 1 [.string a0_1] HM rfl rfl ?_; clear HM; intro w8 HM; obtain ⟨hcz9_0, hcz9_1, hcz9_2, hfz9_0, hfz9_1, hfz9_2⟩ := bk3 (HM.bx 0 rfl)) | ((with_reducible refine gate_st (p := 12) rfl ?_); refine pS 2 12 2 [.int .i64 a0_2] HM rfl rfl ?_; clear HM; intro w10 HM; obtain ⟨hcz11_0, hcz11_1, hcz11_2, hfz11_0, hfz11_1, hfz11_2⟩ := bk3 (HM.bx 2 rfl)) | ((with_reducible refine gate_st (p := 2) rfl ?_); refine pS 1 2 0 [.string a0_0, .string a0_1, .int .i64 a0_2] HM rfl rfl ?_; clear HM; intro w12 HM))
 refine bodyPost_ret (results_cell_row rfl _ _ gb500 95 #[.string a0_0, .string a0_1, .int .i64 a0_2] (0, 0) _ rfl (HM.bx 1 rfl) Try.underlying95 rfl (by kernel_rfl)) rfl ?_
 exact ⟨ER, (MD HM).pick []⟩
def laws_toItemS.l0 : Nat → List (S97) → List (S95) → Int → Option ((List (S95)))
 | 0, _, _, _ => none
 | k + 1, x0, x3, x4 => if x4 < (x0.length : Int) then (if 0 ≤ x4 then ((laws_toItem.f ((rd_T97 x0 x4).f0) ((rd_T97 x0 x4).f1) ((rd_T97 x0 x4).f2)).bind fun bt506 => (if x4 < (x3.length : Int) then (laws_toItemS.l0 k x0 (x3.set (x4 : Int).toNat (⟨bt506.1, bt506.2.1, bt506.2.2⟩ : S95)) (wrap64 (x4 + 1))) else (none))) else (none)) else (some x3)
def laws_toItemS.f (k : Nat) (l0 : List (S97)) : Option ((List (S95))) := if 0 ≤ (l0.length : Int) then (if ((l0.length : Int) : Int).toNat ≤ 7036874417766 then (laws_toItemS.l0 k l0 (List.replicate ((l0.length : Int) : Int).toNat z95) 0) else (none)) else (none)
theorem laws_toItemS.mono_l : ∀ k, (∀ y0 y1 y2, LeO (laws_toItemS.l0 k y0 y1 y2) (laws_toItemS.l0 (k + 1) y0 y1 y2))
 | 0 => fun _ _ _ r h => by simp [laws_toItemS.l0] at h
 | k + 1 => by
  have ih0 := laws_toItemS.mono_l k
  ·intro y0 y1 y2
   unfold laws_toItemS.l0
   repeat' first | (with_reducible first | exact ih0 _ _ _ | exact LeO.refl _ | exact LeO.none _ | refine LeO.ite ?_ ?_ | refine LeO.bind ?_ (fun _ => ?_)) | exact ih0 _ _ _ | exact LeO.none _ | refine LeO.ite ?_ ?_ | refine LeO.bind ?_ (fun _ => ?_)
theorem laws_toItemS.mono : ∀ a0 k, LeO (laws_toItemS.f k a0) (laws_toItemS.f (k + 1) a0) := by
 intro a0 k
 have ih0 := laws_toItemS.mono_l k
 unfold laws_toItemS.f
 repeat' first | (with_reducible first | exact ih0 _ _ _ | exact LeO.refl _ | exact LeO.none _ | refine LeO.ite ?_ ?_ | refine LeO.bind ?_ (fun _ => ?_)) | exact ih0 _ _ _ | exact LeO.none _ | refine LeO.ite ?_ ?_ | refine LeO.bind ?_ (fun _ => ?_)
set_option maxHeartbeats 8000000 in
set_option maxRecDepth 100000 in
theorem laws_toItemS.calls (k : Nat) (A0 : Option Addr) (c0 : Nat) (l0 : List (S97)) (r : List (S95)) (w : World) (hr0 : Kd.C k97 w A0 l0.length l0) (hc0 : l0.length ≤ c0) (h : laws_toItemS.f k l0 = some r) :
  Calls Try.prog 37 #[.slice A0 l0.length c0] w fun e w' => ∃ v0_ : Value, e = .returned (v0_) ∧ Mem w [] w' [rowR k95 95 v0_ r] := by
 have hu97 := Try.underlying97
 have hu95 := Try.underlying95
 have HR0 := Aside0.mk hr0
 have HC0 := Aside0.mk hc0
 clear hr0 hc0
 have HM := Mem.nil w
 have H := h
 clear h
 unfold laws_toItemS.f at H
 go_enter Try.func37, Try.ntmps37
 replace H := GD H; obtain ⟨c2, H⟩ := H
 have c2b0 := eq_true c2
 have c2b1 : decide (0 ≤ (l0.length : Int)) = true := decide_eq_true c2
 clear c2
 replace H := GD H; obtain ⟨c3, H⟩ := H
 have c3b0 := eq_true c3
 have c3b1 : decide (((l0.length : Int) : Int).toNat ≤ 7036874417766) = true := decide_eq_true c3
 clear c3
 have H' := Aside0.mk H
 clear H
 go_wp2_with (first | ((with_reducible refine gate_dst (N := 7) rfl ?_); refine pM 7 k95 95 30 _ _ (l0.length : Int) (.agg #[(.string ⟨#[]⟩), (.string ⟨#[]⟩), (.int .i64 0)]) 40 z95 HM rfl Try.underlying30 info95 (of_decide_eq_true AS) (Nat.le_trans (Nat.mul_le_mul_right _ (of_decide_eq_true AS : (l0.length : Int).toNat ≤ 7036874417766)) (by omega)) (hzero := (k95_mkM _ _ _ z95)) ?_; clear HM; intro v503 w4 HM))
 go_loopg [4] k (fun kq v4 w' => ∃ (x3_1 : List (S95)) (x4_1 : Int), v4 = .int .i64 x4_1 ∧ Aside0 (laws_toItemS.l0 kq l0 x3_1 x4_1 = some r) ∧ Aside0 (kq ≤ k) ∧ Mem w [] w' [rowR k95 95 v503 x3_1])
 case atStart => exact ⟨((List.replicate ((l0.length : Int) : Int).toNat z95)), (0), RS, H', ⟨Nat.le_refl _⟩, (MD HM).pick [0]⟩
 case round =>
  clear H' HM
  obtain ⟨x3_1, x4_1, rfl, HA, HK1, HM⟩ := hrel
  cases gk with
  | zero => exact absurd HA.out (by simp [laws_toItemS.l0])
  | succ k1 =>
   have H := HA.out
   clear HA
   simp only [laws_toItemS.l0] at H
   go_upto_if 11 with (fail)
   replace H := IT H; rcases H with ⟨c5, H⟩ | ⟨c5, H⟩
   ·have c5b0 : decide (x4_1 < (l0.length : Int)) = true := decide_eq_true c5
    clear c5
    (first | rw [c5b0] | (simp only [i64_w, i32_w]; rw [c5b0]) | skip)
    replace H := GD H; obtain ⟨c6, H⟩ := H
    have c6b0 : decide (0 ≤ x4_1) = true := decide_eq_true c6
    clear c6
    replace H := BN H; obtain ⟨⟨t506, t507, t508⟩, A7, H⟩ := H
    replace H := GD H; obtain ⟨c9, H⟩ := H
    have c9b0 : decide (x4_1 < (x3_1.length : Int)) = true := decide_eq_true c9
    clear c9
    have H' := Aside0.mk H
    clear H
    have p505 : 0 ≤ (x4_1 : Int) := of_decide_eq_true AS
    have q505 : (x4_1 : Int) < (l0.length : Int) := of_decide_eq_true AS
    obtain ⟨ad505, e505, hx505_0, hx505_1, hx505_2⟩ := at_T97 (HM.came HR0.out) x4_1 p505 q505
    cases e505
    replace p505 := eq_true p505
    replace q505 := eq_true q505
    go_wp2_with (first | ((with_reducible refine gate_callee (f := 74) rfl ?_); refine pC (some 20) rfl #[.agg #[.string ((rd_T97 l0 x4_1).f0), .string ((rd_T97 l0 x4_1).f1), .int .i64 ((rd_T97 l0 x4_1).f2)]] rfl Try.func74 (laws_toItem.calls ((rd_T97 l0 x4_1).f0) ((rd_T97 l0 x4_1).f1) ((rd_T97 l0 x4_1).f2) t506 t507 t508 _ A7.out) ?_; rintro e w8 ⟨rfl, hR⟩; refine ⟨_, rfl, ?_⟩; replace HM := HM.call hR; clear hR; obtain ⟨Xo11, ko11, eo11⟩ := HM.rdR 0 rfl; subst eo11; have p10 : 0 ≤ (x4_1 : Int) := of_decide_eq_true AS; have q10 : (x4_1 : Int) < ((x3_1.length : Int) : Int) := of_decide_eq_true AS; obtain ⟨go10, ef10⟩ := HM.form 0 rfl (by have h_ := (HM.CR 0 rfl).1; omega); subst ef10; obtain ⟨hcc10, hfr10⟩ := HM.el 0 rfl z95 (x4_1 : Int) p10 (by have h_ := (HM.CR 0 rfl).1; omega) [.string ((rd_T95 x3_1 x4_1).f0), .string ((rd_T95 x3_1 x4_1).f1), .int .i64 ((rd_T95 x3_1 x4_1).f2)] (fun _ _ h => k95_openM h); have hx10_0 : w8.cell? ⟨go10, (x4_1 : Int).toNat * 3, none⟩ = some (.string ((rd_T95 x3_1 x4_1).f0)) := (by have h_ := hcc10 0 _ rfl; first | exact h_ | (simp only [show (k95).sz = 3 from rfl, Nat.mul_one, Nat.add_zero] at h_; exact h_) | simpa using h_); have hf10_0 : w8.frozen? ⟨go10, (x4_1 : Int).toNat * 3, none⟩ = false := (by have h_ := hfr10 0; first | exact h_ | (simp only [show (k95).sz = 3 from rfl, Nat.mul_one, Nat.add_zero] at h_; exact h_) | simpa using h_); have hx10_1 : w8.cell? ⟨go10, (x4_1 : Int).toNat * 3 + 1, none⟩ = some (.string ((rd_T95 x3_1 x4_1).f1)) := (by have h_ := hcc10 1 _ rfl; first | exact h_ | (simp only [show (k95).sz = 3 from rfl, Nat.mul_one, Nat.add_zero] at h_; exact h_) | simpa using h_); have hf10_1 : w8.frozen? ⟨go10, (x4_1 : Int).toNat * 3 + 1, none⟩ = false := (by have h_ := hfr10 1; first | exact h_ | (simp only [show (k95).sz = 3 from rfl, Nat.mul_one, Nat.add_zero] at h_; exact h_) | simpa using h_); have hx10_2 : w8.cell? ⟨go10, (x4_1 : Int).toNat * 3 + 2, none⟩ = some (.int .i64 ((rd_T95 x3_1 x4_1).f2)) := (by have h_ := hcc10 2 _ rfl; first | exact h_ | (simp only [show (k95).sz = 3 from rfl, Nat.mul_one, Nat.add_zero] at h_; exact h_) | simpa using h_); have hf10_2 : w8.frozen? ⟨go10, (x4_1 : Int).toNat * 3 + 2, none⟩ = false := (by have h_ := hfr10 2; first | exact h_ | (simp only [show (k95).sz = 3 from rfl, Nat.mul_one, Nat.add_zero] at h_; exact h_) | simpa using h_); clear hcc10 hfr10; replace p10 := eq_true p10; replace q10 := eq_true q10) | ((with_reducible refine gate_st (p := 21) rfl ?_); refine pPR 0 21 (x4_1 : Int) 0 [.string t506, .string t507, .int .i64 t508] k95 95 x3_1 (⟨t506, t507, t508⟩ : S95) z95 [.string ((rd_T95 x3_1 x4_1).f0), .string ((rd_T95 x3_1 x4_1).f1), .int .i64 ((rd_T95 x3_1 x4_1).f2)] HM rfl rfl (of_decide_eq_true AS) (by have h_ : (x4_1 : Int) < ((x3_1.length : Int) : Int) := of_decide_eq_true AS; have e_ := (HM.CR 0 rfl).1; omega) (fun _ _ h => k95_openM h) (k95_mkM _ _ _ (⟨t506, t507, t508⟩ : S95)) ?_; clear HM; intro w12 HM))
    go_roundg k1
    case measure => have := HK1.out; omega
    case rel => exact ⟨((x3_1.set (x4_1 : Int).toNat (⟨t506, t507, t508⟩ : S95))), (wrap64 (x4_1 + 1)), RS, H', ⟨by have := HK1.out; omega⟩, (MD HM).pick [0]⟩
   ·have c5b0 : decide (x4_1 < (l0.length : Int)) = false := decide_eq_false c5
    clear c5
    (first | rw [c5b0] | (simp only [i64_w, i32_w]; rw [c5b0]) | skip)
    obtain rfl := Option.some.inj H
    go_wp2
    go_ret
    exact ⟨_, ER, (MD HM).pick [0]⟩
def laws_toIntS.l0 : Nat → List Int → List Int → Int → Option (List Int)
 | 0, _, _, _ => none
 | k + 1, x0, x3, x4 => if x4 < (x0.length : Int) then (if 0 ≤ x4 then (if x4 < (x3.length : Int) then (laws_toIntS.l0 k x0 (x3.set (x4 : Int).toNat (rd x0 x4)) (wrap64 (x4 + 1))) else (none)) else (none)) else (some x3)
def laws_toIntS.f (k : Nat) (l0 : List Int) : Option (List Int) := if 0 ≤ (l0.length : Int) then (if ((l0.length : Int) : Int).toNat ≤ 35184372088832 then (laws_toIntS.l0 k l0 (List.replicate ((l0.length : Int) : Int).toNat 0) 0) else (none)) else (none)
theorem laws_toIntS.mono_l : ∀ k, (∀ y0 y1 y2, LeO (laws_toIntS.l0 k y0 y1 y2) (laws_toIntS.l0 (k + 1) y0 y1 y2))
 | 0 => fun _ _ _ r h => by simp [laws_toIntS.l0] at h
 | k + 1 => by
  have ih0 := laws_toIntS.mono_l k
  ·intro y0 y1 y2
   unfold laws_toIntS.l0
   repeat' first | (with_reducible first | exact ih0 _ _ _ | exact LeO.refl _ | exact LeO.none _ | refine LeO.ite ?_ ?_ | refine LeO.bind ?_ (fun _ => ?_)) | exact ih0 _ _ _ | exact LeO.none _ | refine LeO.ite ?_ ?_ | refine LeO.bind ?_ (fun _ => ?_)
theorem laws_toIntS.mono : ∀ a0 k, LeO (laws_toIntS.f k a0) (laws_toIntS.f (k + 1) a0) := by
 intro a0 k
 have ih0 := laws_toIntS.mono_l k
 unfold laws_toIntS.f
 repeat' first | (with_reducible first | exact ih0 _ _ _ | exact LeO.refl _ | exact LeO.none _ | refine LeO.ite ?_ ?_ | refine LeO.bind ?_ (fun _ => ?_)) | exact ih0 _ _ _ | exact LeO.none _ | refine LeO.ite ?_ ?_ | refine LeO.bind ?_ (fun _ => ?_)
set_option maxHeartbeats 8000000 in
set_option maxRecDepth 100000 in
theorem laws_toIntS.calls (k : Nat) (A0 : Option Addr) (c0 : Nat) (l0 : List Int) (r : List Int) (w : World) (hr0 : Kd.C (Kd.int .i64) w A0 l0.length l0) (hc0 : l0.length ≤ c0) (h : laws_toIntS.f k l0 = some r) :
  Calls Try.prog 38 #[.slice A0 l0.length c0] w fun e w' => ∃ v0_ : Value, e = .returned (v0_) ∧ Mem w [] w' [rowR (Kd.int .i64) 3 v0_ r] := by
 have HR0 := Aside0.mk hr0
 have HC0 := Aside0.mk hc0
 clear hr0 hc0
 have HM := Mem.nil w
 have H := h
 clear h
 unfold laws_toIntS.f at H
 go_enter Try.func38, Try.ntmps38
 replace H := GD H; obtain ⟨c2, H⟩ := H
 have c2b0 := eq_true c2
 have c2b1 : decide (0 ≤ (l0.length : Int)) = true := decide_eq_true c2
 clear c2
 replace H := GD H; obtain ⟨c3, H⟩ := H
 have c3b0 := eq_true c3
 have c3b1 : decide (((l0.length : Int) : Int).toNat ≤ 35184372088832) = true := decide_eq_true c3
 clear c3
 have H' := Aside0.mk H
 clear H
 go_wp2_with (first | ((with_reducible refine gate_dst (N := 7) rfl ?_); refine pM 7 (Kd.int .i64) 3 23 _ _ (l0.length : Int) (.int .i64 0) 8 0 HM rfl Try.underlying23 info3 (of_decide_eq_true AS) (Nat.le_trans (Nat.mul_le_mul_right _ (of_decide_eq_true AS : (l0.length : Int).toNat ≤ 35184372088832)) (by omega)) (hzero := rfl) ?_; clear HM; intro v511 w4 HM))
 go_loopg [4] k (fun kq v4 w' => ∃ (x3_1 : List Int) (x4_1 : Int), v4 = .int .i64 x4_1 ∧ Aside0 (laws_toIntS.l0 kq l0 x3_1 x4_1 = some r) ∧ Aside0 (kq ≤ k) ∧ Mem w [] w' [rowR (Kd.int .i64) 3 v511 x3_1])
 case atStart => exact ⟨((List.replicate ((l0.length : Int) : Int).toNat 0)), (0), RS, H', ⟨Nat.le_refl _⟩, (MD HM).pick [0]⟩
 case round =>
  clear H' HM
  obtain ⟨x3_1, x4_1, rfl, HA, HK1, HM⟩ := hrel
  cases gk with
  | zero => exact absurd HA.out (by simp [laws_toIntS.l0])
  | succ k1 =>
   have H := HA.out
   clear HA
   simp only [laws_toIntS.l0] at H
   go_upto_if 11 with (fail)
   replace H := IT H; rcases H with ⟨c5, H⟩ | ⟨c5, H⟩
   ·have c5b0 : decide (x4_1 < (l0.length : Int)) = true := decide_eq_true c5
    clear c5
    (first | rw [c5b0] | (simp only [i64_w, i32_w]; rw [c5b0]) | skip)
    replace H := GD H; obtain ⟨c6, H⟩ := H
    have c6b0 : decide (0 ≤ x4_1) = true := decide_eq_true c6
    clear c6
    replace H := GD H; obtain ⟨c7, H⟩ := H
    have c7b0 : decide (x4_1 < (x3_1.length : Int)) = true := decide_eq_true c7
    clear c7
    have H' := Aside0.mk H
    clear H
    have p513 : 0 ≤ (x4_1 : Int) := of_decide_eq_true AS
    have q513 : (x4_1 : Int) < (l0.length : Int) := of_decide_eq_true AS
    obtain ⟨ad513, e513, hx513_0⟩ := Kd.at_int (HM.came HR0.out) x4_1 p513 q513
    cases e513
    replace p513 := eq_true p513
    replace q513 := eq_true q513
    obtain ⟨Xo9, ko9, eo9⟩ := HM.rdR 0 rfl
    subst eo9
    have p8 : 0 ≤ (x4_1 : Int) := of_decide_eq_true AS
    have q8 : (x4_1 : Int) < ((x3_1.length : Int) : Int) := of_decide_eq_true AS
    obtain ⟨go8, ef8⟩ := HM.form 0 rfl (by have h_ := (HM.CR 0 rfl).1; omega)
    subst ef8
    obtain ⟨hcc8, hfr8⟩ := HM.el 0 rfl 0 (x4_1 : Int) p8 (by have h_ := (HM.CR 0 rfl).1; omega) [.int .i64 (rd x3_1 x4_1)] (fun _ _ h => h)
    have hx8_0 : wr.cell? ⟨go8, (x4_1 : Int).toNat, none⟩ = some (.int .i64 (rd x3_1 x4_1)) := (by have h_ := hcc8 0 _ rfl; first | exact h_ | (simp only [show ((Kd.int .i64)).sz = 1 from rfl, Nat.mul_one, Nat.add_zero] at h_; exact h_) | simpa using h_)
    have hf8_0 : wr.frozen? ⟨go8, (x4_1 : Int).toNat, none⟩ = false := (by have h_ := hfr8 0; first | exact h_ | (simp only [show ((Kd.int .i64)).sz = 1 from rfl, Nat.mul_one, Nat.add_zero] at h_; exact h_) | simpa using h_)
    clear hcc8 hfr8
    replace p8 := eq_true p8
    replace q8 := eq_true q8
    go_wp2_with (first | ((with_reducible refine gate_st (p := 20) rfl ?_); refine pPR 0 20 (x4_1 : Int) 0 [.int .i64 (rd l0 x4_1)] (Kd.int .i64) 3 x3_1 (rd l0 x4_1) 0 [.int .i64 (rd x3_1 x4_1)] HM rfl rfl (of_decide_eq_true AS) (by have h_ : (x4_1 : Int) < ((x3_1.length : Int) : Int) := of_decide_eq_true AS; have e_ := (HM.CR 0 rfl).1; omega) (fun _ _ h => h) rfl ?_; clear HM; intro w10 HM))
    go_roundg k1
    case measure => have := HK1.out; omega
    case rel => exact ⟨((x3_1.set (x4_1 : Int).toNat (rd l0 x4_1))), (wrap64 (x4_1 + 1)), RS, H', ⟨by have := HK1.out; omega⟩, (MD HM).pick [0]⟩
   ·have c5b0 : decide (x4_1 < (l0.length : Int)) = false := decide_eq_false c5
    clear c5
    (first | rw [c5b0] | (simp only [i64_w, i32_w]; rw [c5b0]) | skip)
    obtain rfl := Option.some.inj H
    go_wp2
    go_ret
    exact ⟨_, ER, (MD HM).pick [0]⟩
end Go.Proofs.Ytdeijmofaapgdaa.G
