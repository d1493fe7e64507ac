/- Part 2 of the claim FnSave, merged by pack.py (this session's program) out of: the print's words, cut to what is needed; texts that gen.py printed (it runs the kit's print in place); texts of this session. -/
import Derived.Test.YtnlnifpehndacaaGreatKFnSave1
namespace Go.Proofs.YtnlnifpehndacaaGreat.Mm
end Go.Proofs.YtnlnifpehndacaaGreat.Mm
namespace Go.Proofs.YtnlnifpehndacaaGreat.Sh
end Go.Proofs.YtnlnifpehndacaaGreat.Sh
set_option maxHeartbeats 8000000
set_option maxRecDepth 100000
namespace Go.Proofs.YtnlnifpehndacaaGreat.G
open Go.RowKit Go.Proofs.YtnlnifpehndacaaGreatW.PrintWords Go.Proofs.YtnlnifpehndacaaGreatW.PrintLast Go.Proofs.YtnlnifpehndacaaGreatW.PrintMore Go.Proofs.YtnlnifpehndacaaGreat.Sh
attribute [local go_sem] max2_int min2_int max_two min_two max_three min_three max_four min_four
set_option linter.unusedVariables false
set_option linter.unusedSimpArgs false
open Go.Proofs.YtnlnifpehndacaaGreat.Mm
mutual
def spec_l10Touch.j0 : Nat → Bool → ByteArray → Int → Int → Int → Int → List (S60) → List (S60) → List Int → ByteArray → ByteArray → Int → Option (Int × Int × (List (S60)) × (List (S60)) × List Int × ByteArray × Bool)
 | 0, _, _, _, _, _, _, _, _, _, _, _, _ => none
 | k + 1, x2, x3, x11, x12, x160000, x160001, x160002, x160003, x160004, x164000, x164001, x164002 => if x12 ≥ 0 then (if 0 ≤ x12 then (if x12 < (x160003.length : Int) then (spec_l10Touch.j1 k x2 x3 x11 x12 x160000 x160001 x160002 x160003 x160004 ((rd_T60 x160003 x12).f0) ((rd_T60 x160003 x12).f1) ((rd_T60 x160003 x12).f2)) else (none)) else (none)) else (spec_l10Touch.j1 k x2 x3 x11 x12 x160000 x160001 x160002 x160003 x160004 x164000 x164001 x164002)
def spec_l10Touch.j1 : Nat → Bool → ByteArray → Int → Int → Int → Int → List (S60) → List (S60) → List Int → ByteArray → ByteArray → Int → Option (Int × Int × (List (S60)) × (List (S60)) × List Int × ByteArray × Bool)
 | 0, _, _, _, _, _, _, _, _, _, _, _, _ => none
 | k + 1, x2, x3, x11, x12, x160000, x160001, x160002, x160003, x160004, x164000, x164001, x164002 => if x11 < 0 then (spec_l10Touch.j2 k x2 x3 x11 x12 (decide (x12 < 0)) x160000 x160001 x160002 x160003 x160004 x164000 x164001 x164002) else (spec_l10Touch.j2 k x2 x3 x11 x12 false x160000 x160001 x160002 x160003 x160004 x164000 x164001 x164002)
def spec_l10Touch.j2 : Nat → Bool → ByteArray → Int → Int → Bool → Int → Int → List (S60) → List (S60) → List Int → ByteArray → ByteArray → Int → Option (Int × Int × (List (S60)) × (List (S60)) × List Int × ByteArray × Bool)
 | 0, _, _, _, _, _, _, _, _, _, _, _, _, _ => none
 | k + 1, x2, x3, x11, x12, x42, x160000, x160001, x160002, x160003, x160004, x164000, x164001, x164002 => if x42 = true then (some (x160000, x160001, x160002, x160003, x160004, (⟨#[]⟩ : ByteArray), false)) else ((spec_l10More.f x164002).bind fun t166 => (if x2 = true then (if x11 ≥ 0 then (if 0 ≤ x11 then (if x11 < (x160002.length : Int) then (some (x160000, x160001, (x160002.set (x11 : Int).toNat (⟨x164000, x3, t166⟩ : S60)), x160003, x160004, x3, true)) else (none)) else (none)) else (if 0 ≤ x12 then (if x12 < (x160003.length : Int) then (some (x160000, x160001, x160002, (x160003.set (x12 : Int).toNat (⟨x164000, x3, t166⟩ : S60)), x160004, x3, true)) else (none)) else (none))) else (if x11 ≥ 0 then (if 0 ≤ x11 then (if x11 < (x160002.length : Int) then (some (x160000, x160001, (x160002.set (x11 : Int).toNat (⟨x164000, x164001, t166⟩ : S60)), x160003, x160004, x164001, true)) else (none)) else (none)) else (if 0 ≤ x12 then (if x12 < (x160003.length : Int) then (some (x160000, x160001, x160002, (x160003.set (x12 : Int).toNat (⟨x164000, x164001, t166⟩ : S60)), x160004, x164001, true)) else (none)) else (none)))))
end
def spec_l10Touch.f (k : Nat) (a0_0 : Int) (a0_1 : Int) (l0_2 : List (S60)) (l0_3 : List (S60)) (l0_4 : List Int) (a1 : ByteArray) (a2 : Bool) (a3 : ByteArray) : Option (Int × Int × (List (S60)) × (List (S60)) × List Int × ByteArray × Bool) := (spec_l10At.f k l0_2 a1).bind fun t161 => ((spec_l10At.f k l0_3 a1).bind fun t162 => (if t161 ≥ 0 then (if 0 ≤ t161 then (if t161 < (l0_2.length : Int) then (spec_l10Touch.j0 k a2 a3 t161 t162 a0_0 a0_1 l0_2 l0_3 l0_4 ((rd_T60 l0_2 t161).f0) ((rd_T60 l0_2 t161).f1) ((rd_T60 l0_2 t161).f2)) else (none)) else (none)) else (spec_l10Touch.j0 k a2 a3 t161 t162 a0_0 a0_1 l0_2 l0_3 l0_4 (⟨#[]⟩ : ByteArray) (⟨#[]⟩ : ByteArray) 0)))
def spec_l10Touch.T16 : Bool × List (List Nat × List Nat) := (true, [([], []), ([], []), ([1], [1]), ([0, 0], [0]), ([2, 3, 0, 1, 2, 3], [2]), ([4, 0, 1, 2, 3, 4], [])])
def spec_l10Touch.B16 : List Nat := [0, 0, 2, 1, 15, 31]
theorem spec_l10Touch.tab16 : rtab .any (opsOf Tryz.f73 16) = spec_l10Touch.T16 := by kernel_rfl
theorem spec_l10Touch.bits16 : waitsOk spec_l10Touch.T16.2 spec_l10Touch.B16 = true := by kernel_rfl
theorem spec_l10Touch.calls (k : Nat) (a0_0 : Int) (a0_1 : Int) (u9000_ : Value) (l0_2 : List (S60)) (u9001_ : Value) (l0_3 : List (S60)) (u9002_ : Value) (l0_4 : List Int) (a1 : ByteArray) (a2 : Bool) (a3 : ByteArray) (r1 : Int) (r2 : Int) (r3 : List (S60)) (r4 : List (S60)) (r5 : List Int) (r6 : ByteArray) (r7 : Bool) (w0 w : World) (F : List SP)  (hM : Mem w0 F w [rowR k60 60 u9000_ l0_2, rowR k60 60 u9001_ l0_3, rowR (Kd.int .i64) 3 u9002_ l0_4]) (h : spec_l10Touch.f k a0_0 a0_1 l0_2 l0_3 l0_4 a1 a2 a3 = some (r1, r2, r3, r4, r5, r6, r7)) :
  Calls Tryz.prog 73 #[.agg #[.int .i64 a0_0, .int .i64 a0_1, u9000_, u9001_, u9002_], .string a1, .bool a2, .string a3] w fun e w' => ∃ v2_ v3_ v4_ : Value, e = .returned (.tuple #[.agg #[.int .i64 r1, .int .i64 r2, v2_, v3_, v4_], .string r6, .bool r7]) ∧ Mem w0 F w' [rowR k60 60 v2_ r3, rowR k60 60 v3_ r4, rowR (Kd.int .i64) 3 v4_ r5] := by
 have hu26 := Tryz.underlying26
 have hu60 := Tryz.underlying60
 have HM := hM
 clear hM
 have H := h
 clear h
 unfold spec_l10Touch.f at H
 go_enter Tryz.func73, Tryz.ntmps73
 replace H := BN H; obtain ⟨t161, A11, H⟩ := H
 replace H := BN H; obtain ⟨t162, A14, H⟩ := H
 have HC18 := Aside0.mk H
 clear H
 obtain ⟨Xo5, ko5, rfl⟩ := HM.rdR 0 rfl
 obtain ⟨Xo6, ko6, rfl⟩ := HM.rdR 1 rfl
 obtain ⟨Xo7, ko7, rfl⟩ := HM.rdR 2 rfl
 go_upto_if 24 with (first | ((with_reducible refine gN 4 rfl ?_); refine pB 4 26 [.int .i64 a0_0, .int .i64 a0_1, .slice Xo5 l0_2.length ko5, .slice Xo6 l0_3.length ko6, .slice Xo7 l0_4.length ko7] HM rfl ?_; clear HM; intro gb159 w8 HM) | ((with_reducible refine gN 8 rfl ?_); refine pB 8 26 [.int .i64 0, .int .i64 0, .slice none 0 0, .slice none 0 0, .slice none 0 0] HM rfl ?_; clear HM; intro gb160 w9 HM; obtain ⟨_,_,_,_,_,_,_,_,_,_⟩ := bk5 (HM.bx 3 rfl)) | ((with_reducible refine gC 70 rfl ?_); refine pC (some 17) rfl #[.slice Xo5 l0_2.length ko5, .string a1] rfl Tryz.func70 (spec_l10At.calls k _ _ l0_2 a1 t161 _ (HM.CR 0 rfl).2.2 (HM.CR 0 rfl).2.1 A11.out) ?_; rintro e w12 ⟨rfl, hR⟩; refine ⟨_, rfl, ?_⟩; replace HM := HM.call hR; clear hR; obtain ⟨_,_,_,_,_,_,_,_,_,_⟩ := bk5 (HM.bx 3 rfl)) | ((with_reducible refine gC 70 rfl ?_); refine pC (some 21) rfl #[.slice Xo6 l0_3.length ko6, .string a1] rfl Tryz.func70 (spec_l10At.calls k _ _ l0_3 a1 t162 _ (HM.CR 1 rfl).2.2 (HM.CR 1 rfl).2.1 A14.out) ?_; rintro e w15 ⟨rfl, hR⟩; refine ⟨_, rfl, ?_⟩; replace HM := HM.call hR; clear hR) | ((with_reducible refine gN 13 rfl ?_); refine pB 13 60 [.string (⟨#[]⟩ : ByteArray), .string (⟨#[]⟩ : ByteArray), .int .i64 0] HM rfl ?_; clear HM; intro gb163 w16 HM) | ((with_reducible refine gS 13 rfl ?_); refine pS 5 13 0 [.string (⟨#[]⟩ : ByteArray), .string (⟨#[]⟩ : ByteArray), .int .i64 0] HM rfl rfl ?_; clear HM; intro w17 HM))
 replace HM := nzM HM
 try simp only [Act.put, List.setIfInBounds_toArray, List.set_cons_zero, List.set_cons_succ]
 go_cut [] (fun wc => ∃ (kq : Nat) (x164000_17 : ByteArray) (x164001_17 : ByteArray) (x164002_17 : Int), Aside0 (spec_l10Touch.j0 kq a2 a3 t161 t162 a0_0 a0_1 l0_2 l0_3 l0_4 x164000_17 x164001_17 x164002_17 = some (r1, r2, r3, r4, r5, r6, r7)) ∧ Aside0 (kq ≤ k) ∧ Mem w0 F wc [rowR k60 60 (.slice Xo5 l0_2.length ko5) l0_2, rowR k60 60 (.slice Xo6 l0_3.length ko6) l0_3, rowR (Kd.int .i64) 3 (.slice Xo7 l0_4.length ko7) l0_4, box 26 gb159 [.int .i64 a0_0, .int .i64 a0_1, (.slice Xo5 l0_2.length ko5), (.slice Xo6 l0_3.length ko6), (.slice Xo7 l0_4.length ko7)], box 26 gb160 [.int .i64 0, .int .i64 0, .slice none 0 0, .slice none 0 0, .slice none 0 0], box 60 gb163 [.string x164000_17, .string x164001_17, .int .i64 x164002_17]])
 case first =>
  have H := HC18.out
  clear HC18
  go_upto_if 24 with (fail)
  replace H := IT H; rcases H with ⟨c19, H⟩ | ⟨c19, H⟩
  ·have c19b0 : decide (0 ≤ t161) = true := decide_eq_true c19
   clear c19
   first|rw [c19b0]|(simp only [i64_w, i32_w]; rw [c19b0])|skip
   replace H := GD H; obtain ⟨c21, H⟩ := H
   have c21b0 := decide_eq_true c21
   clear c21
   replace H := GD H; obtain ⟨c22, H⟩ := H
   have c22b0 := decide_eq_true c22
   clear c22
   have H' := Aside0.mk H
   clear H
   obtain ⟨_,_,_,_,_,_,_,_,_,_⟩ := bk5 (HM.bx 3 rfl)
   have p164 : 0 ≤ (t161 : Int) := of_decide_eq_true AS
   have q164 : (t161 : Int) < (l0_2.length : Int) := of_decide_eq_true AS
   obtain ⟨ad164, e164, hx164_0, hx164_1, hx164_2⟩ := at_T60 (HM.CR 0 rfl).2.2 t161 p164 q164
   cases e164
   replace p164 := eq_true p164
   replace q164 := eq_true q164
   go_wp2_with (first | ((with_reducible refine gS 13 rfl ?_); refine pS 5 13 0 [.string ((rd_T60 l0_2 t161).f0), .string ((rd_T60 l0_2 t161).f1), .int .i64 ((rd_T60 l0_2 t161).f2)] HM rfl rfl ?_; clear HM; intro w23 HM))
   go_meet
   case rel => exact ⟨_, ((rd_T60 l0_2 t161).f0), ((rd_T60 l0_2 t161).f1), ((rd_T60 l0_2 t161).f2), H', ⟨by first | omega | exact Nat.le_refl _⟩, (MD HM).pick [0, 1, 2, 3, 4, 5]⟩
  ·have c19b0 : decide (0 ≤ t161) = false := decide_eq_false c19
   clear c19
   first|rw [c19b0]|(simp only [i64_w, i32_w]; rw [c19b0])|skip
   have H' := Aside0.mk H
   clear H
   go_wp2
   go_meet
   case rel => exact ⟨_, ((⟨#[]⟩ : ByteArray)), ((⟨#[]⟩ : ByteArray)), (0), H', ⟨by first | omega | exact Nat.le_refl _⟩, (MD HM).pick [0, 1, 2, 3, 4, 5]⟩
 case rest =>
  clear HC18 HM
  obtain ⟨kq, x164000_17, x164001_17, x164002_17, HA, HJ17, HM⟩ := hcut
  cases kq with
  | zero => exact absurd HA.out (by simp [spec_l10Touch.j0])
  | succ kj17 =>
   have H := HA.out
   clear HA
   simp only [spec_l10Touch.j0] at H
   have HC24 := Aside0.mk H
   clear H
   go_upto_if 31 with (fail)
   go_cut [] (fun wc => ∃ (kq : Nat) (x164000_23 : ByteArray) (x164001_23 : ByteArray) (x164002_23 : Int), Aside0 (spec_l10Touch.j1 kq a2 a3 t161 t162 a0_0 a0_1 l0_2 l0_3 l0_4 x164000_23 x164001_23 x164002_23 = some (r1, r2, r3, r4, r5, r6, r7)) ∧ Aside0 (kq ≤ kj17) ∧ Mem w0 F wc [rowR k60 60 (.slice Xo5 l0_2.length ko5) l0_2, rowR k60 60 (.slice Xo6 l0_3.length ko6) l0_3, rowR (Kd.int .i64) 3 (.slice Xo7 l0_4.length ko7) l0_4, box 26 gb159 [.int .i64 a0_0, .int .i64 a0_1, (.slice Xo5 l0_2.length ko5), (.slice Xo6 l0_3.length ko6), (.slice Xo7 l0_4.length ko7)], box 26 gb160 [.int .i64 0, .int .i64 0, .slice none 0 0, .slice none 0 0, .slice none 0 0], box 60 gb163 [.string x164000_23, .string x164001_23, .int .i64 x164002_23]])
   case first =>
    have H := HC24.out
    clear HC24
    go_upto_if 31 with (fail)
    replace H := IT H; rcases H with ⟨c25, H⟩ | ⟨c25, H⟩
    ·have c25b0 : decide (0 ≤ t162) = true := decide_eq_true c25
     clear c25
     first|rw [c25b0]|(simp only [i64_w, i32_w]; rw [c25b0])|skip
     replace H := GD H; obtain ⟨c27, H⟩ := H
     have c27b0 := decide_eq_true c27
     clear c27
     replace H := GD H; obtain ⟨c28, H⟩ := H
     have c28b0 := decide_eq_true c28
     clear c28
     have H' := Aside0.mk H
     clear H
     obtain ⟨_,_,_,_,_,_,_,_,_,_⟩ := bk5 (HM.bx 3 rfl)
     have p165 : 0 ≤ (t162 : Int) := of_decide_eq_true AS
     have q165 : (t162 : Int) < (l0_3.length : Int) := of_decide_eq_true AS
     obtain ⟨ad165, e165, hx165_0, hx165_1, hx165_2⟩ := at_T60 (HM.CR 1 rfl).2.2 t162 p165 q165
     cases e165
     replace p165 := eq_true p165
     replace q165 := eq_true q165
     go_wp2_with (first | ((with_reducible refine gS 13 rfl ?_); refine pS 5 13 0 [.string ((rd_T60 l0_3 t162).f0), .string ((rd_T60 l0_3 t162).f1), .int .i64 ((rd_T60 l0_3 t162).f2)] HM rfl rfl ?_; clear HM; intro w29 HM))
     go_meet
     case rel => exact ⟨_, ((rd_T60 l0_3 t162).f0), ((rd_T60 l0_3 t162).f1), ((rd_T60 l0_3 t162).f2), H', ⟨by have := HJ17.out; first | omega | exact Nat.le_refl _⟩, (MD HM).pick [0, 1, 2, 3, 4, 5]⟩
    ·have c25b0 : decide (0 ≤ t162) = false := decide_eq_false c25
     clear c25
     first|rw [c25b0]|(simp only [i64_w, i32_w]; rw [c25b0])|skip
     have H' := Aside0.mk H
     clear H
     go_wp2
     go_meet
     case rel => exact ⟨_, (x164000_17), (x164001_17), (x164002_17), H', ⟨by have := HJ17.out; first | omega | exact Nat.le_refl _⟩, (MD HM).pick [0, 1, 2, 3, 4, 5]⟩
   case rest =>
    clear HC24 HM
    obtain ⟨kq, x164000_23, x164001_23, x164002_23, HA, HJ23, HM⟩ := hcut
    cases kq with
    | zero => exact absurd HA.out (by simp [spec_l10Touch.j1])
    | succ kj23 =>
     have H := HA.out
     clear HA
     simp only [spec_l10Touch.j1] at H
     have HC30 := Aside0.mk H
     clear H
     go_upto_region 8 with (fail)
     go_cut [42] (fun v42 wc => ∃ (kq : Nat) (x42_29 : Bool), v42 = .bool x42_29 ∧ Aside0 (spec_l10Touch.j2 kq a2 a3 t161 t162 x42_29 a0_0 a0_1 l0_2 l0_3 l0_4 x164000_23 x164001_23 x164002_23 = some (r1, r2, r3, r4, r5, r6, r7)) ∧ Aside0 (kq ≤ kj23) ∧ Mem w0 F wc [rowR k60 60 (.slice Xo5 l0_2.length ko5) l0_2, rowR k60 60 (.slice Xo6 l0_3.length ko6) l0_3, rowR (Kd.int .i64) 3 (.slice Xo7 l0_4.length ko7) l0_4, box 26 gb159 [.int .i64 a0_0, .int .i64 a0_1, (.slice Xo5 l0_2.length ko5), (.slice Xo6 l0_3.length ko6), (.slice Xo7 l0_4.length ko7)], box 26 gb160 [.int .i64 0, .int .i64 0, .slice none 0 0, .slice none 0 0, .slice none 0 0], box 60 gb163 [.string x164000_23, .string x164001_23, .int .i64 x164002_23]])
     case first =>
      have H := HC30.out
      clear HC30
      replace H := IT H; rcases H with ⟨c31, H⟩ | ⟨c31, H⟩
      ·have c31b0 := decide_eq_true c31
       clear c31
       have H' := Aside0.mk H
       clear H
       go_wp2
       go_meet
       case rel => exact ⟨_, (decide (t162 < 0)), RS, H', ⟨by have := HJ17.out; have := HJ23.out; first | omega | exact Nat.le_refl _⟩, (MD HM).pick [0, 1, 2, 3, 4, 5]⟩
      ·have c31b0 := decide_eq_false c31
       clear c31
       have H' := Aside0.mk H
       clear H
       go_wp2
       go_meet
       case rel => exact ⟨_, (false), RS, H', ⟨by have := HJ17.out; have := HJ23.out; first | omega | exact Nat.le_refl _⟩, (MD HM).pick [0, 1, 2, 3, 4, 5]⟩
     case rest =>
      clear HC30 HM
      obtain ⟨kq, x42_29, rfl, HA, HJ29, HM⟩ := hcut
      cases kq with
      | zero => exact absurd HA.out (by simp [spec_l10Touch.j2])
      | succ kj29 =>
       have H := HA.out
       clear HA
       simp only [spec_l10Touch.j2] at H
       go_upto_if 42 with (fail)
       replace H := IB H
       rcases H with ⟨c32, H⟩ | ⟨c32, H⟩
       ·subst c32
        simp only [Option.some.injEq, Prod.mk.injEq] at H
        obtain ⟨rfl, rfl, rfl, rfl, rfl, rfl, rfl⟩ := H
        obtain ⟨_,_,_,_,_,_,_,_,_,_⟩ := bk5 (HM.bx 3 rfl)
        go_wp2_with (first | ((with_reducible refine gS 8 rfl ?_); refine pS 4 8 0 [.int .i64 a0_0, .int .i64 a0_1, .slice Xo5 l0_2.length ko5, .slice Xo6 l0_3.length ko6, .slice Xo7 l0_4.length ko7] HM rfl rfl ?_; clear HM; intro w34 HM))
        refine bodyPost_ret (results_ctt rfl _ _ gb160 26 #[.int .i64 a0_0, .int .i64 a0_1, .slice Xo5 l0_2.length ko5, .slice Xo6 l0_3.length ko6, .slice Xo7 l0_4.length ko7] (0, 0) _ rfl (HM.bx 4 rfl) Tryz.underlying26 rfl (by kernel_rfl)) rfl ?_
        exact ⟨_, _, _, ER, (MD HM).pick [0, 1, 2]⟩
       ·subst c32
        replace H := BN H; obtain ⟨t166, A36, H⟩ := H
        obtain ⟨_,_,_,_,_,_⟩ := bk3 (HM.bx 5 rfl)
        go_upto_if 48 with (first | ((with_reducible refine gC 86 rfl ?_); refine pC (some 46) rfl #[.int .i64 x164002_23] rfl Tryz.func86 (spec_l10More.calls x164002_23 t166 _ A36.out) ?_; rintro e w37 ⟨rfl, hd⟩; refine ⟨_, rfl, ?_⟩; replace HM := HM.drawn hd; clear hd) | ((with_reducible refine gS 47 rfl ?_); refine pS 5 47 2 [.int .i64 t166] HM rfl rfl ?_; clear HM; intro w38 HM))
        replace H := IB H
        rcases H with ⟨c39, H⟩ | ⟨c39, H⟩
        ·subst c39
         go_upto_if 52 with (first | ((with_reducible refine gS 50 rfl ?_); refine pS 5 50 1 [.string a3] HM rfl rfl ?_; clear HM; intro w40 HM))
         replace H := IT H; rcases H with ⟨c41, H⟩ | ⟨c41, H⟩
         ·have c41b0 : decide (0 ≤ t161) = true := decide_eq_true c41
          clear c41
          first|rw [c41b0]|(simp only [i64_w, i32_w]; rw [c41b0])|skip
          replace H := GD H; obtain ⟨c44, H⟩ := H
          have c44b0 := decide_eq_true c44
          clear c44
          replace H := GD H; obtain ⟨c45, H⟩ := H
          have c45b0 := decide_eq_true c45
          clear c45
          obtain ⟨_,_,_,_,_,_,_,_,_,_⟩ := bk5 (HM.bx 3 rfl)
          obtain ⟨_,_,_,_,_,_⟩ := bk3 (HM.bx 5 rfl)
          have p46 : 0 ≤ (t161 : Int) := of_decide_eq_true AS
          have q46 : (t161 : Int) < ((l0_2.length : Int) : Int) := of_decide_eq_true AS
          obtain ⟨go46, ef46⟩ := HM.form 0 rfl (by have h_ := (HM.CR 0 rfl).1; omega)
          subst ef46
          obtain ⟨hx46_0, hx46_1, hx46_2, hf46_0, hf46_1, hf46_2⟩ := HM.el3 0 rfl z60 (t161 : Int) p46 (by have h_ := (HM.CR 0 rfl).1; omega) (.string ((rd_T60 l0_2 t161).f0)) (.string ((rd_T60 l0_2 t161).f1)) (.int .i64 ((rd_T60 l0_2 t161).f2)) (fun _ _ h => k60_openM h)
          replace p46 := eq_true p46
          replace q46 := eq_true q46
          try go_wp2_with (first | ((with_reducible refine gS 57 rfl ?_); refine pPR 0 57 (t161 : Int) 0 [.string x164000_23, .string a3, .int .i64 t166] k60 60 l0_2 (⟨x164000_23, a3, t166⟩ : S60) z60 [.string ((rd_T60 l0_2 t161).f0), .string ((rd_T60 l0_2 t161).f1), .int .i64 ((rd_T60 l0_2 t161).f2)] HM rfl rfl (of_decide_eq_true AS) (by have h_ : (t161 : Int) < ((l0_2.length : Int) : Int) := of_decide_eq_true AS; have e_ := (HM.CR 0 rfl).1; omega) (fun _ _ h => k60_openM h) (k60_mkM _ _ _ (⟨x164000_23, a3, t166⟩ : S60)) ?_; clear HM; intro w47 HM))
          refine RGN 6 [0, 1, 2, 3, 4, 5] (fun a0 b a w' => a = putSel a0 b [(0, 63, .agg #[.int .i64 a0_0, .int .i64 a0_1, .slice (some ⟨go46, 0, none⟩) l0_2.length ko5, .slice Xo6 l0_3.length ko6, .slice Xo7 l0_4.length ko7]), (1, 64, .pointer (some ⟨gb163, 1, none⟩)), (2, 65, .string a3), (4, 9, .string a3), (5, 10, .bool true)] ∧ Mem w0 F w' [rowR k60 60 (.slice (some ⟨go46, 0, none⟩) l0_2.length ko5) (l0_2.set (t161 : Int).toNat (⟨x164000_23, a3, t166⟩ : S60)), rowR k60 60 (.slice Xo6 l0_3.length ko6) l0_3, rowR (Kd.int .i64) 3 (.slice Xo7 l0_4.length ko7) l0_4, box 26 gb159 [.int .i64 a0_0, .int .i64 a0_1, .slice (some ⟨go46, 0, none⟩) l0_2.length ko5, .slice Xo6 l0_3.length ko6, .slice Xo7 l0_4.length ko7], sel (b 3) (box 26 gb160 [.int .i64 a0_0, .int .i64 a0_1, .slice (some ⟨go46, 0, none⟩) l0_2.length ko5, .slice Xo6 l0_3.length ko6, .slice Xo7 l0_4.length ko7]) (box 26 gb160 [.int .i64 0, .int .i64 0, .slice none 0 0, .slice none 0 0, .slice none 0 0]), box 60 gb163 [.string x164000_23, .string a3, .int .i64 t166]]) spec_l10Touch.tab16 spec_l10Touch.bits16 ?_ ?_ ?_
          ·exact ⟨PS0' rfl _, (HM.drew).pick [0, 1, 2, 3, 4, 5]⟩
          ·clear HM
           refine SY ?_ ?_
           ·intro b a w ha HM hb hon hoff K hK
            obtain ⟨_,_,_,_,_,_,_,_,_,_⟩ := bk5 (HM.bx 3 rfl)
            have e4 := PG ha 4
            exact VL (.agg #[.int .i64 a0_0, .int .i64 a0_1, .slice (some ⟨go46, 0, none⟩) l0_2.length ko5, .slice Xo6 l0_3.length ko6, .slice Xo7 l0_4.length ko7]) (hK.out _ _ ⟨PUT ha 0 hb, HM⟩)
           refine SY ?_ ?_
           ·intro b a w ha HM hb hon hoff K hK
            have e13 := PG ha 13
            exact VL (.pointer (some ⟨gb163, 1, none⟩)) (hK.out _ _ ⟨PUT ha 1 hb, HM⟩)
           refine SY ?_ ?_
           ·intro b a w ha HM hb hon hoff K hK
            obtain ⟨_,_,_,_,_,_⟩ := bk3 (HM.bx 5 rfl)
            have e64 := PE ha 1 hon
            exact VL (.string a3) (hK.out _ _ ⟨PUT ha 2 hb, HM⟩)
           refine SY ?_ ?_
           ·intro b a w ha HM hb hon hoff K hK
            replace HM := HM.sF 4 rfl hb
            have e8 := PG ha 8
            have e63 := PE ha 0 hon
            refine ST (eS 4 8 0 [.int .i64 a0_0, .int .i64 a0_1, .slice (some ⟨go46, 0, none⟩) l0_2.length ko5, .slice Xo6 l0_3.length ko6, .slice Xo7 l0_4.length ko7] HM rfl rfl ?_ (hp := (eval_of e8)) (hx := (by rw [eval_of e63]; rfl)))
            clear HM
            intro w53 HM
            exact hK.out _ _ ⟨PUS ha, (HM).pick [0, 1, 2, 3, 4, 5]⟩
           refine SY ?_ ?_
           ·intro b a w ha HM hb hon hoff K hK
            have e65 := PE ha 2 hon
            exact VL (.string a3) (hK.out _ _ ⟨PUT ha 3 hb, HM⟩)
           refine SY ?_ ?_
           ·intro b a w ha HM hb hon hoff K hK
            exact VL (.bool true) (hK.out _ _ ⟨PUT ha 4 hb, HM⟩)
           exact steps_nil
          rintro _ w54 ⟨rfl, HM⟩
          replace HM := HM.sT 4 rfl rfl
          simp only [putSel, if_true, Act.put, List.setIfInBounds_toArray, List.set_cons_zero, List.set_cons_succ, gt_iff_lt, ge_iff_le]
          simp only [Option.some.injEq, Prod.mk.injEq] at H
          obtain ⟨rfl, rfl, rfl, rfl, rfl, rfl, rfl⟩ := H
          go_wp2
          refine bodyPost_ret (results_ctt rfl _ _ gb160 26 #[.int .i64 a0_0, .int .i64 a0_1, .slice (some ⟨go46, 0, none⟩) l0_2.length ko5, .slice Xo6 l0_3.length ko6, .slice Xo7 l0_4.length ko7] (0, 0) _ rfl (HM.bx 4 rfl) Tryz.underlying26 rfl (by kernel_rfl)) rfl ?_
          exact ⟨_, _, _, ER, (MD HM).pick [0, 1, 2]⟩
         ·have c41b0 : decide (0 ≤ t161) = false := decide_eq_false c41
          clear c41
          first|rw [c41b0]|(simp only [i64_w, i32_w]; rw [c41b0])|skip
          replace H := GD H; obtain ⟨c57, H⟩ := H
          have c57b0 := decide_eq_true c57
          clear c57
          replace H := GD H; obtain ⟨c58, H⟩ := H
          have c58b0 := decide_eq_true c58
          clear c58
          obtain ⟨_,_,_,_,_,_,_,_,_,_⟩ := bk5 (HM.bx 3 rfl)
          obtain ⟨_,_,_,_,_,_⟩ := bk3 (HM.bx 5 rfl)
          have p59 : 0 ≤ (t162 : Int) := of_decide_eq_true AS
          have q59 : (t162 : Int) < ((l0_3.length : Int) : Int) := of_decide_eq_true AS
          obtain ⟨go59, ef59⟩ := HM.form 1 rfl (by have h_ := (HM.CR 1 rfl).1; omega)
          subst ef59
          obtain ⟨hx59_0, hx59_1, hx59_2, hf59_0, hf59_1, hf59_2⟩ := HM.el3 1 rfl z60 (t162 : Int) p59 (by have h_ := (HM.CR 1 rfl).1; omega) (.string ((rd_T60 l0_3 t162).f0)) (.string ((rd_T60 l0_3 t162).f1)) (.int .i64 ((rd_T60 l0_3 t162).f2)) (fun _ _ h => k60_openM h)
          replace p59 := eq_true p59
          replace q59 := eq_true q59
          try go_wp2_with (first | ((with_reducible refine gS 62 rfl ?_); refine pPR 1 62 (t162 : Int) 0 [.string x164000_23, .string a3, .int .i64 t166] k60 60 l0_3 (⟨x164000_23, a3, t166⟩ : S60) z60 [.string ((rd_T60 l0_3 t162).f0), .string ((rd_T60 l0_3 t162).f1), .int .i64 ((rd_T60 l0_3 t162).f2)] HM rfl rfl (of_decide_eq_true AS) (by have h_ : (t162 : Int) < ((l0_3.length : Int) : Int) := of_decide_eq_true AS; have e_ := (HM.CR 1 rfl).1; omega) (fun _ _ h => k60_openM h) (k60_mkM _ _ _ (⟨x164000_23, a3, t166⟩ : S60)) ?_; clear HM; intro w60 HM))
          refine RGN 6 [0, 1, 2, 3, 4, 5] (fun a0 b a w' => a = putSel a0 b [(0, 63, .agg #[.int .i64 a0_0, .int .i64 a0_1, .slice Xo5 l0_2.length ko5, .slice (some ⟨go59, 0, none⟩) l0_3.length ko6, .slice Xo7 l0_4.length ko7]), (1, 64, .pointer (some ⟨gb163, 1, none⟩)), (2, 65, .string a3), (4, 9, .string a3), (5, 10, .bool true)] ∧ Mem w0 F w' [rowR k60 60 (.slice Xo5 l0_2.length ko5) l0_2, rowR k60 60 (.slice (some ⟨go59, 0, none⟩) l0_3.length ko6) (l0_3.set (t162 : Int).toNat (⟨x164000_23, a3, t166⟩ : S60)), rowR (Kd.int .i64) 3 (.slice Xo7 l0_4.length ko7) l0_4, box 26 gb159 [.int .i64 a0_0, .int .i64 a0_1, .slice Xo5 l0_2.length ko5, .slice (some ⟨go59, 0, none⟩) l0_3.length ko6, .slice Xo7 l0_4.length ko7], sel (b 3) (box 26 gb160 [.int .i64 a0_0, .int .i64 a0_1, .slice Xo5 l0_2.length ko5, .slice (some ⟨go59, 0, none⟩) l0_3.length ko6, .slice Xo7 l0_4.length ko7]) (box 26 gb160 [.int .i64 0, .int .i64 0, .slice none 0 0, .slice none 0 0, .slice none 0 0]), box 60 gb163 [.string x164000_23, .string a3, .int .i64 t166]]) spec_l10Touch.tab16 spec_l10Touch.bits16 ?_ ?_ ?_
          ·exact ⟨PS0' rfl _, (HM.drew).pick [0, 1, 2, 3, 4, 5]⟩
          ·clear HM
           refine SY ?_ ?_
           ·intro b a w ha HM hb hon hoff K hK
            obtain ⟨_,_,_,_,_,_,_,_,_,_⟩ := bk5 (HM.bx 3 rfl)
            have e4 := PG ha 4
            exact VL (.agg #[.int .i64 a0_0, .int .i64 a0_1, .slice Xo5 l0_2.length ko5, .slice (some ⟨go59, 0, none⟩) l0_3.length ko6, .slice Xo7 l0_4.length ko7]) (hK.out _ _ ⟨PUT ha 0 hb, HM⟩)
           refine SY ?_ ?_
           ·intro b a w ha HM hb hon hoff K hK
            have e13 := PG ha 13
            exact VL (.pointer (some ⟨gb163, 1, none⟩)) (hK.out _ _ ⟨PUT ha 1 hb, HM⟩)
           refine SY ?_ ?_
           ·intro b a w ha HM hb hon hoff K hK
            obtain ⟨_,_,_,_,_,_⟩ := bk3 (HM.bx 5 rfl)
            have e64 := PE ha 1 hon
            exact VL (.string a3) (hK.out _ _ ⟨PUT ha 2 hb, HM⟩)
           refine SY ?_ ?_
           ·intro b a w ha HM hb hon hoff K hK
            replace HM := HM.sF 4 rfl hb
            have e8 := PG ha 8
            have e63 := PE ha 0 hon
            refine ST (eS 4 8 0 [.int .i64 a0_0, .int .i64 a0_1, .slice Xo5 l0_2.length ko5, .slice (some ⟨go59, 0, none⟩) l0_3.length ko6, .slice Xo7 l0_4.length ko7] HM rfl rfl ?_ (hp := (eval_of e8)) (hx := (by rw [eval_of e63]; rfl)))
            clear HM
            intro w66 HM
            exact hK.out _ _ ⟨PUS ha, (HM).pick [0, 1, 2, 3, 4, 5]⟩
           refine SY ?_ ?_
           ·intro b a w ha HM hb hon hoff K hK
            have e65 := PE ha 2 hon
            exact VL (.string a3) (hK.out _ _ ⟨PUT ha 3 hb, HM⟩)
           refine SY ?_ ?_
           ·intro b a w ha HM hb hon hoff K hK
            exact VL (.bool true) (hK.out _ _ ⟨PUT ha 4 hb, HM⟩)
           exact steps_nil
          rintro _ w67 ⟨rfl, HM⟩
          replace HM := HM.sT 4 rfl rfl
          simp only [putSel, if_true, Act.put, List.setIfInBounds_toArray, List.set_cons_zero, List.set_cons_succ, gt_iff_lt, ge_iff_le]
          simp only [Option.some.injEq, Prod.mk.injEq] at H
          obtain ⟨rfl, rfl, rfl, rfl, rfl, rfl, rfl⟩ := H
          go_wp2
          refine bodyPost_ret (results_ctt rfl _ _ gb160 26 #[.int .i64 a0_0, .int .i64 a0_1, .slice Xo5 l0_2.length ko5, .slice (some ⟨go59, 0, none⟩) l0_3.length ko6, .slice Xo7 l0_4.length ko7] (0, 0) _ rfl (HM.bx 4 rfl) Tryz.underlying26 rfl (by kernel_rfl)) rfl ?_
          exact ⟨_, _, _, ER, (MD HM).pick [0, 1, 2]⟩
        ·subst c39
         go_upto_if 52 with (fail)
         replace H := IT H; rcases H with ⟨c68, H⟩ | ⟨c68, H⟩
         ·have c68b0 : decide (0 ≤ t161) = true := decide_eq_true c68
          clear c68
          first|rw [c68b0]|(simp only [i64_w, i32_w]; rw [c68b0])|skip
          replace H := GD H; obtain ⟨c71, H⟩ := H
          have c71b0 := decide_eq_true c71
          clear c71
          replace H := GD H; obtain ⟨c72, H⟩ := H
          have c72b0 := decide_eq_true c72
          clear c72
          obtain ⟨_,_,_,_,_,_,_,_,_,_⟩ := bk5 (HM.bx 3 rfl)
          obtain ⟨_,_,_,_,_,_⟩ := bk3 (HM.bx 5 rfl)
          have p73 : 0 ≤ (t161 : Int) := of_decide_eq_true AS
          have q73 : (t161 : Int) < ((l0_2.length : Int) : Int) := of_decide_eq_true AS
          obtain ⟨go73, ef73⟩ := HM.form 0 rfl (by have h_ := (HM.CR 0 rfl).1; omega)
          subst ef73
          obtain ⟨hx73_0, hx73_1, hx73_2, hf73_0, hf73_1, hf73_2⟩ := HM.el3 0 rfl z60 (t161 : Int) p73 (by have h_ := (HM.CR 0 rfl).1; omega) (.string ((rd_T60 l0_2 t161).f0)) (.string ((rd_T60 l0_2 t161).f1)) (.int .i64 ((rd_T60 l0_2 t161).f2)) (fun _ _ h => k60_openM h)
          replace p73 := eq_true p73
          replace q73 := eq_true q73
          try go_wp2_with (first | ((with_reducible refine gS 57 rfl ?_); refine pPR 0 57 (t161 : Int) 0 [.string x164000_23, .string x164001_23, .int .i64 t166] k60 60 l0_2 (⟨x164000_23, x164001_23, t166⟩ : S60) z60 [.string ((rd_T60 l0_2 t161).f0), .string ((rd_T60 l0_2 t161).f1), .int .i64 ((rd_T60 l0_2 t161).f2)] HM rfl rfl (of_decide_eq_true AS) (by have h_ : (t161 : Int) < ((l0_2.length : Int) : Int) := of_decide_eq_true AS; have e_ := (HM.CR 0 rfl).1; omega) (fun _ _ h => k60_openM h) (k60_mkM _ _ _ (⟨x164000_23, x164001_23, t166⟩ : S60)) ?_; clear HM; intro w74 HM))
          refine RGN 6 [0, 1, 2, 3, 4, 5] (fun a0 b a w' => a = putSel a0 b [(0, 63, .agg #[.int .i64 a0_0, .int .i64 a0_1, .slice (some ⟨go73, 0, none⟩) l0_2.length ko5, .slice Xo6 l0_3.length ko6, .slice Xo7 l0_4.length ko7]), (1, 64, .pointer (some ⟨gb163, 1, none⟩)), (2, 65, .string x164001_23), (4, 9, .string x164001_23), (5, 10, .bool true)] ∧ Mem w0 F w' [rowR k60 60 (.slice (some ⟨go73, 0, none⟩) l0_2.length ko5) (l0_2.set (t161 : Int).toNat (⟨x164000_23, x164001_23, t166⟩ : S60)), rowR k60 60 (.slice Xo6 l0_3.length ko6) l0_3, rowR (Kd.int .i64) 3 (.slice Xo7 l0_4.length ko7) l0_4, box 26 gb159 [.int .i64 a0_0, .int .i64 a0_1, .slice (some ⟨go73, 0, none⟩) l0_2.length ko5, .slice Xo6 l0_3.length ko6, .slice Xo7 l0_4.length ko7], sel (b 3) (box 26 gb160 [.int .i64 a0_0, .int .i64 a0_1, .slice (some ⟨go73, 0, none⟩) l0_2.length ko5, .slice Xo6 l0_3.length ko6, .slice Xo7 l0_4.length ko7]) (box 26 gb160 [.int .i64 0, .int .i64 0, .slice none 0 0, .slice none 0 0, .slice none 0 0]), box 60 gb163 [.string x164000_23, .string x164001_23, .int .i64 t166]]) spec_l10Touch.tab16 spec_l10Touch.bits16 ?_ ?_ ?_
          ·exact ⟨PS0' rfl _, (HM.drew).pick [0, 1, 2, 3, 4, 5]⟩
          ·clear HM
           refine SY ?_ ?_
           ·intro b a w ha HM hb hon hoff K hK
            obtain ⟨_,_,_,_,_,_,_,_,_,_⟩ := bk5 (HM.bx 3 rfl)
            have e4 := PG ha 4
            exact VL (.agg #[.int .i64 a0_0, .int .i64 a0_1, .slice (some ⟨go73, 0, none⟩) l0_2.length ko5, .slice Xo6 l0_3.length ko6, .slice Xo7 l0_4.length ko7]) (hK.out _ _ ⟨PUT ha 0 hb, HM⟩)
           refine SY ?_ ?_
           ·intro b a w ha HM hb hon hoff K hK
            have e13 := PG ha 13
            exact VL (.pointer (some ⟨gb163, 1, none⟩)) (hK.out _ _ ⟨PUT ha 1 hb, HM⟩)
           refine SY ?_ ?_
           ·intro b a w ha HM hb hon hoff K hK
            obtain ⟨_,_,_,_,_,_⟩ := bk3 (HM.bx 5 rfl)
            have e64 := PE ha 1 hon
            exact VL (.string x164001_23) (hK.out _ _ ⟨PUT ha 2 hb, HM⟩)
           refine SY ?_ ?_
           ·intro b a w ha HM hb hon hoff K hK
            replace HM := HM.sF 4 rfl hb
            have e8 := PG ha 8
            have e63 := PE ha 0 hon
            refine ST (eS 4 8 0 [.int .i64 a0_0, .int .i64 a0_1, .slice (some ⟨go73, 0, none⟩) l0_2.length ko5, .slice Xo6 l0_3.length ko6, .slice Xo7 l0_4.length ko7] HM rfl rfl ?_ (hp := (eval_of e8)) (hx := (by rw [eval_of e63]; rfl)))
            clear HM
            intro w80 HM
            exact hK.out _ _ ⟨PUS ha, (HM).pick [0, 1, 2, 3, 4, 5]⟩
           refine SY ?_ ?_
           ·intro b a w ha HM hb hon hoff K hK
            have e65 := PE ha 2 hon
            exact VL (.string x164001_23) (hK.out _ _ ⟨PUT ha 3 hb, HM⟩)
           refine SY ?_ ?_
           ·intro b a w ha HM hb hon hoff K hK
            exact VL (.bool true) (hK.out _ _ ⟨PUT ha 4 hb, HM⟩)
           exact steps_nil
          rintro _ w81 ⟨rfl, HM⟩
          replace HM := HM.sT 4 rfl rfl
          simp only [putSel, if_true, Act.put, List.setIfInBounds_toArray, List.set_cons_zero, List.set_cons_succ, gt_iff_lt, ge_iff_le]
          simp only [Option.some.injEq, Prod.mk.injEq] at H
          obtain ⟨rfl, rfl, rfl, rfl, rfl, rfl, rfl⟩ := H
          go_wp2
          refine bodyPost_ret (results_ctt rfl _ _ gb160 26 #[.int .i64 a0_0, .int .i64 a0_1, .slice (some ⟨go73, 0, none⟩) l0_2.length ko5, .slice Xo6 l0_3.length ko6, .slice Xo7 l0_4.length ko7] (0, 0) _ rfl (HM.bx 4 rfl) Tryz.underlying26 rfl (by kernel_rfl)) rfl ?_
          exact ⟨_, _, _, ER, (MD HM).pick [0, 1, 2]⟩
         ·have c68b0 : decide (0 ≤ t161) = false := decide_eq_false c68
          clear c68
          first|rw [c68b0]|(simp only [i64_w, i32_w]; rw [c68b0])|skip
          replace H := GD H; obtain ⟨c84, H⟩ := H
          have c84b0 := decide_eq_true c84
          clear c84
          replace H := GD H; obtain ⟨c85, H⟩ := H
          have c85b0 := decide_eq_true c85
          clear c85
          obtain ⟨_,_,_,_,_,_,_,_,_,_⟩ := bk5 (HM.bx 3 rfl)
          obtain ⟨_,_,_,_,_,_⟩ := bk3 (HM.bx 5 rfl)
          have p86 : 0 ≤ (t162 : Int) := of_decide_eq_true AS
          have q86 : (t162 : Int) < ((l0_3.length : Int) : Int) := of_decide_eq_true AS
          obtain ⟨go86, ef86⟩ := HM.form 1 rfl (by have h_ := (HM.CR 1 rfl).1; omega)
          subst ef86
          obtain ⟨hx86_0, hx86_1, hx86_2, hf86_0, hf86_1, hf86_2⟩ := HM.el3 1 rfl z60 (t162 : Int) p86 (by have h_ := (HM.CR 1 rfl).1; omega) (.string ((rd_T60 l0_3 t162).f0)) (.string ((rd_T60 l0_3 t162).f1)) (.int .i64 ((rd_T60 l0_3 t162).f2)) (fun _ _ h => k60_openM h)
          replace p86 := eq_true p86
          replace q86 := eq_true q86
          try go_wp2_with (first | ((with_reducible refine gS 62 rfl ?_); refine pPR 1 62 (t162 : Int) 0 [.string x164000_23, .string x164001_23, .int .i64 t166] k60 60 l0_3 (⟨x164000_23, x164001_23, t166⟩ : S60) z60 [.string ((rd_T60 l0_3 t162).f0), .string ((rd_T60 l0_3 t162).f1), .int .i64 ((rd_T60 l0_3 t162).f2)] HM rfl rfl (of_decide_eq_true AS) (by have h_ : (t162 : Int) < ((l0_3.length : Int) : Int) := of_decide_eq_true AS; have e_ := (HM.CR 1 rfl).1; omega) (fun _ _ h => k60_openM h) (k60_mkM _ _ _ (⟨x164000_23, x164001_23, t166⟩ : S60)) ?_; clear HM; intro w87 HM))
          refine RGN 6 [0, 1, 2, 3, 4, 5] (fun a0 b a w' => a = putSel a0 b [(0, 63, .agg #[.int .i64 a0_0, .int .i64 a0_1, .slice Xo5 l0_2.length ko5, .slice (some ⟨go86, 0, none⟩) l0_3.length ko6, .slice Xo7 l0_4.length ko7]), (1, 64, .pointer (some ⟨gb163, 1, none⟩)), (2, 65, .string x164001_23), (4, 9, .string x164001_23), (5, 10, .bool true)] ∧ Mem w0 F w' [rowR k60 60 (.slice Xo5 l0_2.length ko5) l0_2, rowR k60 60 (.slice (some ⟨go86, 0, none⟩) l0_3.length ko6) (l0_3.set (t162 : Int).toNat (⟨x164000_23, x164001_23, t166⟩ : S60)), rowR (Kd.int .i64) 3 (.slice Xo7 l0_4.length ko7) l0_4, box 26 gb159 [.int .i64 a0_0, .int .i64 a0_1, .slice Xo5 l0_2.length ko5, .slice (some ⟨go86, 0, none⟩) l0_3.length ko6, .slice Xo7 l0_4.length ko7], sel (b 3) (box 26 gb160 [.int .i64 a0_0, .int .i64 a0_1, .slice Xo5 l0_2.length ko5, .slice (some ⟨go86, 0, none⟩) l0_3.length ko6, .slice Xo7 l0_4.length ko7]) (box 26 gb160 [.int .i64 0, .int .i64 0, .slice none 0 0, .slice none 0 0, .slice none 0 0]), box 60 gb163 [.string x164000_23, .string x164001_23, .int .i64 t166]]) spec_l10Touch.tab16 spec_l10Touch.bits16 ?_ ?_ ?_
          ·exact ⟨PS0' rfl _, (HM.drew).pick [0, 1, 2, 3, 4, 5]⟩
          ·clear HM
           refine SY ?_ ?_
           ·intro b a w ha HM hb hon hoff K hK
            obtain ⟨_,_,_,_,_,_,_,_,_,_⟩ := bk5 (HM.bx 3 rfl)
            have e4 := PG ha 4
            exact VL (.agg #[.int .i64 a0_0, .int .i64 a0_1, .slice Xo5 l0_2.length ko5, .slice (some ⟨go86, 0, none⟩) l0_3.length ko6, .slice Xo7 l0_4.length ko7]) (hK.out _ _ ⟨PUT ha 0 hb, HM⟩)
           refine SY ?_ ?_
           ·intro b a w ha HM hb hon hoff K hK
            have e13 := PG ha 13
            exact VL (.pointer (some ⟨gb163, 1, none⟩)) (hK.out _ _ ⟨PUT ha 1 hb, HM⟩)
           refine SY ?_ ?_
           ·intro b a w ha HM hb hon hoff K hK
            obtain ⟨_,_,_,_,_,_⟩ := bk3 (HM.bx 5 rfl)
            have e64 := PE ha 1 hon
            exact VL (.string x164001_23) (hK.out _ _ ⟨PUT ha 2 hb, HM⟩)
           refine SY ?_ ?_
           ·intro b a w ha HM hb hon hoff K hK
            replace HM := HM.sF 4 rfl hb
            have e8 := PG ha 8
            have e63 := PE ha 0 hon
            refine ST (eS 4 8 0 [.int .i64 a0_0, .int .i64 a0_1, .slice Xo5 l0_2.length ko5, .slice (some ⟨go86, 0, none⟩) l0_3.length ko6, .slice Xo7 l0_4.length ko7] HM rfl rfl ?_ (hp := (eval_of e8)) (hx := (by rw [eval_of e63]; rfl)))
            clear HM
            intro w93 HM
            exact hK.out _ _ ⟨PUS ha, (HM).pick [0, 1, 2, 3, 4, 5]⟩
           refine SY ?_ ?_
           ·intro b a w ha HM hb hon hoff K hK
            have e65 := PE ha 2 hon
            exact VL (.string x164001_23) (hK.out _ _ ⟨PUT ha 3 hb, HM⟩)
           refine SY ?_ ?_
           ·intro b a w ha HM hb hon hoff K hK
            exact VL (.bool true) (hK.out _ _ ⟨PUT ha 4 hb, HM⟩)
           exact steps_nil
          rintro _ w94 ⟨rfl, HM⟩
          replace HM := HM.sT 4 rfl rfl
          simp only [putSel, if_true, Act.put, List.setIfInBounds_toArray, List.set_cons_zero, List.set_cons_succ, gt_iff_lt, ge_iff_le]
          simp only [Option.some.injEq, Prod.mk.injEq] at H
          obtain ⟨rfl, rfl, rfl, rfl, rfl, rfl, rfl⟩ := H
          go_wp2
          refine bodyPost_ret (results_ctt rfl _ _ gb160 26 #[.int .i64 a0_0, .int .i64 a0_1, .slice Xo5 l0_2.length ko5, .slice (some ⟨go86, 0, none⟩) l0_3.length ko6, .slice Xo7 l0_4.length ko7] (0, 0) _ rfl (HM.bx 4 rfl) Tryz.underlying26 rfl (by kernel_rfl)) rfl ?_
          exact ⟨_, _, _, ER, (MD HM).pick [0, 1, 2]⟩
def spec_l10Copy.f (a0_0 : Int) (a0_1 : Int) (l0_2 : List (S60)) (l0_3 : List (S60)) (l0_4 : List Int) : Option (Int × Int × (List (S60)) × (List (S60)) × List Int) := (some (([] : List (S60)) : List (S60))).bind fun y173 => (if y173.length + l0_2.length < 3518437208883 then ((some (([] : List (S60)) : List (S60))).bind fun y179 => (if y179.length + l0_3.length < 3518437208883 then ((some (([] : List Int) : List Int)).bind fun y185 => (if y185.length + l0_4.length < 17592186044416 then (some (a0_0, a0_1, (y173 ++ l0_2), (y179 ++ l0_3), (y185 ++ l0_4))) else (none))) else (none))) else (none))
def spec_l10Copy.T1 : Bool × List (List Nat × List Nat) := (true, [([], []), ([0], [0]), ([], []), ([2], [2]), ([], []), ([], []), ([5], [5]), ([4, 6], [4, 6]), ([], []), ([], []), ([9], [9]), ([8, 10, 7], [8, 10]), ([], []), ([], []), ([13], [13]), ([12, 14, 11], [12, 14]), ([1, 3, 7, 11, 15], [1, 3, 7, 11, 15]), ([16, 15, 0, 1, 2, 3, 4, 5, 6, 7, 8, 9, 10, 11, 12, 13, 14, 15, 16], [16])])
def spec_l10Copy.B1 : List Nat := [0, 1, 0, 4, 0, 0, 32, 112, 0, 0, 512, 2032, 0, 0, 8192, 32752, 65535, 131071]
theorem spec_l10Copy.tab1 : rtab .any (opsOf Tryz.f74 1) = spec_l10Copy.T1 := by kernel_rfl
theorem spec_l10Copy.bits1 : waitsOk spec_l10Copy.T1.2 spec_l10Copy.B1 = true := by kernel_rfl
theorem spec_l10Copy.calls (a0_0 : Int) (a0_1 : Int) (A0_2 : Option Addr) (c0_2 : Nat) (l0_2 : List (S60)) (A0_3 : Option Addr) (c0_3 : Nat) (l0_3 : List (S60)) (A0_4 : Option Addr) (c0_4 : Nat) (l0_4 : List Int) (r1 : Int) (r2 : Int) (r3 : List (S60)) (r4 : List (S60)) (r5 : List Int) (w : World) (hr0_2 : Kd.C k60 w A0_2 l0_2.length l0_2) (hc0_2 : l0_2.length ≤ c0_2) (hr0_3 : Kd.C k60 w A0_3 l0_3.length l0_3) (hc0_3 : l0_3.length ≤ c0_3) (hr0_4 : Kd.C (Kd.int .i64) w A0_4 l0_4.length l0_4) (hc0_4 : l0_4.length ≤ c0_4) (h : spec_l10Copy.f a0_0 a0_1 l0_2 l0_3 l0_4 = some (r1, r2, r3, r4, r5)) :
  Calls Tryz.prog 74 #[.agg #[.int .i64 a0_0, .int .i64 a0_1, .slice A0_2 l0_2.length c0_2, .slice A0_3 l0_3.length c0_3, .slice A0_4 l0_4.length c0_4]] w fun e w' => ∃ v2_ v3_ v4_ : Value, e = .returned (.agg #[.int .i64 r1, .int .i64 r2, v2_, v3_, v4_]) ∧ Mem w [] w' [rowR k60 60 v2_ r3, rowR k60 60 v3_ r4, rowR (Kd.int .i64) 3 v4_ r5] := by
 have hu26 := Tryz.underlying26
 have HR0_2 := Aside0.mk hr0_2
 have HC0_2 := Aside0.mk hc0_2
 clear hr0_2 hc0_2
 have HR0_3 := Aside0.mk hr0_3
 have HC0_3 := Aside0.mk hc0_3
 clear hr0_3 hc0_3
 have HR0_4 := Aside0.mk hr0_4
 have HC0_4 := Aside0.mk hc0_4
 clear hr0_4 hc0_4
 have HM := Mem.nil w
 have H := h
 clear h
 unfold spec_l10Copy.f at H
 go_enter Tryz.func74, Tryz.ntmps74
 try go_wp2_with (first | ((with_reducible refine gN 1 rfl ?_); refine pB 1 26 [.int .i64 a0_0, .int .i64 a0_1, .slice A0_2 l0_2.length c0_2, .slice A0_3 l0_3.length c0_3, .slice A0_4 l0_4.length c0_4] HM rfl ?_; clear HM; intro gb171 w2 HM) | ((with_reducible refine gN 2 rfl ?_); refine pB 2 26 [.int .i64 0, .int .i64 0, .slice none 0 0, .slice none 0 0, .slice none 0 0] HM rfl ?_; clear HM; intro gb172 w3 HM))
 replace H := BLt H; obtain ⟨y173, Ny173, H⟩ := H
 replace Ny173 := Aside0.mk Ny173
 replace H := GD H; obtain ⟨c4, H⟩ := H
 have LMc4 := Aside0.mk c4
 clear c4
 replace H := BLt H; obtain ⟨y179, Ny179, H⟩ := H
 replace Ny179 := Aside0.mk Ny179
 replace H := GD H; obtain ⟨c5, H⟩ := H
 have LMc5 := Aside0.mk c5
 clear c5
 replace H := BLt H; obtain ⟨y185, Ny185, H⟩ := H
 replace Ny185 := Aside0.mk Ny185
 replace H := GD H; obtain ⟨c6, H⟩ := H
 have LMc6 := Aside0.mk c6
 clear c6
 refine RGN 18 [0, 1, 2, 3, 4, 5, 6, 7, 8, 9, 10, 11, 12, 13, 14, 15, 16, 17] (fun a0 b a w' => ∃ (v174 : Value) (v177 : Value) (v180 : Value) (v183 : Value) (v186 : Value) (v189 : Value), a = putSel a0 b [(0, 3, .pointer (some ⟨gb171, 0, none⟩)), (1, 4, .int .i64 a0_0), (2, 5, .pointer (some ⟨gb171, 1, none⟩)), (3, 6, .int .i64 a0_1), (4, 7, v174), (5, 8, .pointer (some ⟨gb171, 2, none⟩)), (6, 9, .slice A0_2 l0_2.length c0_2), (7, 10, v177), (8, 11, v180), (9, 12, .pointer (some ⟨gb171, 3, none⟩)), (10, 13, .slice A0_3 l0_3.length c0_3), (11, 14, v183), (12, 15, v186), (13, 16, .pointer (some ⟨gb171, 4, none⟩)), (14, 17, .slice A0_4 l0_4.length c0_4), (15, 18, v189), (16, 19, .agg #[.int .i64 a0_0, .int .i64 a0_1, v177, v183, v189])] ∧ Mem w [] w' [box 26 gb171 [.int .i64 a0_0, .int .i64 a0_1, .slice A0_2 l0_2.length c0_2, .slice A0_3 l0_3.length c0_3, .slice A0_4 l0_4.length c0_4], sel (b 17) (box 26 gb172 [.int .i64 a0_0, .int .i64 a0_1, v177, v183, v189]) (box 26 gb172 [.int .i64 0, .int .i64 0, .slice none 0 0, .slice none 0 0, .slice none 0 0]), sel (b 7) (rowR k60 60 v177 (y173 ++ l0_2)) (sel (b 4) (rowR k60 60 v174 y173) (emp)), sel (b 11) (rowR k60 60 v183 (y179 ++ l0_3)) (sel (b 8) (rowR k60 60 v180 y179) (emp)), sel (b 15) (rowR (Kd.int .i64) 3 v189 (y185 ++ l0_4)) (sel (b 12) (rowR (Kd.int .i64) 3 v186 y185) (emp))]) spec_l10Copy.tab1 spec_l10Copy.bits1 ?_ ?_ ?_
 ·exact ⟨.bool false, .bool false, .bool false, .bool false, .bool false, .bool false, PS0' rfl _, (HM.drew.ems 3).pick [0, 1, 2, 3, 4]⟩
 ·clear HM
  refine SZ ?_ ?_
  ·rintro b a w ⟨v174, v177, v180, v183, v186, v189, ha, HM⟩ hb hon hoff K hK
   replace ha := Aside0.mk ha
   have e1 := PG ha 1
   exact VL (.pointer (some ⟨gb171, 0, none⟩)) (hK.out _ _ ⟨v174, v177, v180, v183, v186, v189, PUT ha 0 hb, HM⟩)
  refine SZ ?_ ?_
  ·rintro b a w ⟨v174, v177, v180, v183, v186, v189, ha, HM⟩ hb hon hoff K hK
   replace ha := Aside0.mk ha
   obtain ⟨_,_,_,_,_,_,_,_,_,_⟩ := bk5 (HM.bx 0 rfl)
   have e3 := PE ha 0 hon
   exact VL (.int .i64 a0_0) (hK.out _ _ ⟨v174, v177, v180, v183, v186, v189, PUT ha 1 hb, HM⟩)
  refine SZ ?_ ?_
  ·rintro b a w ⟨v174, v177, v180, v183, v186, v189, ha, HM⟩ hb hon hoff K hK
   replace ha := Aside0.mk ha
   have e1 := PG ha 1
   exact VL (.pointer (some ⟨gb171, 1, none⟩)) (hK.out _ _ ⟨v174, v177, v180, v183, v186, v189, PUT ha 2 hb, HM⟩)
  refine SZ ?_ ?_
  ·rintro b a w ⟨v174, v177, v180, v183, v186, v189, ha, HM⟩ hb hon hoff K hK
   replace ha := Aside0.mk ha
   obtain ⟨_,_,_,_,_,_,_,_,_,_⟩ := bk5 (HM.bx 0 rfl)
   have e5 := PE ha 2 hon
   exact VL (.int .i64 a0_1) (hK.out _ _ ⟨v174, v177, v180, v183, v186, v189, PUT ha 3 hb, HM⟩)
  refine SZ ?_ ?_
  ·rintro b a w ⟨v174, v177, v180, v183, v186, v189, ha, HM⟩ hb hon hoff K hK
   replace ha := Aside0.mk ha
   refine ST (eL 7 k60 60 ([] : List (S60)) [] (Reps.none _ _) HM rfl ?_)
   clear HM
   intro v174 w27 HM
   replace HM := HM.nm 5 rfl Ny173.out
   exact hK.out _ _ ⟨v174, v177, v180, v183, v186, v189, PUT ha 4 hb, (HM.iF 5 rfl (hoff 7 rfl)).pick [0, 1, 5, 3, 4]⟩
  refine SZ ?_ ?_
  ·rintro b a w ⟨v174, v177, v180, v183, v186, v189, ha, HM⟩ hb hon hoff K hK
   replace ha := Aside0.mk ha
   have e1 := PG ha 1
   exact VL (.pointer (some ⟨gb171, 2, none⟩)) (hK.out _ _ ⟨v174, v177, v180, v183, v186, v189, PUT ha 5 hb, HM⟩)
  refine SZ ?_ ?_
  ·rintro b a w ⟨v174, v177, v180, v183, v186, v189, ha, HM⟩ hb hon hoff K hK
   replace ha := Aside0.mk ha
   obtain ⟨_,_,_,_,_,_,_,_,_,_⟩ := bk5 (HM.bx 0 rfl)
   have e8 := PE ha 5 hon
   exact VL (.slice A0_2 l0_2.length c0_2) (hK.out _ _ ⟨v174, v177, v180, v183, v186, v189, PUT ha 6 hb, HM⟩)
  refine SZ ?_ ?_
  ·rintro b a w ⟨v174, v177, v180, v183, v186, v189, ha, HM⟩ hb hon hoff K hK
   replace ha := Aside0.mk ha
   replace HM := (HM.sF 2 rfl hb).sT 2 rfl (hon 4 rfl)
   have e7 := PE ha 4 hon
   have e9 := PE ha 6 hon
   refine ST (eA 2 (.tmp 7) (.tmp 9) 23 60 k60 v174 y173 l0_2 A0_2 l0_2.length c0_2 HM rfl Tryz.underlying23 info60 rfl (HM.came HR0_2.out) (by have h_ := LMc4.out; omega) ?_ (ops := #[]) (hw := by rfl) (hs := (eval_of e7)) (hx := (eval_of e9)))
   clear HM
   intro v177 w29 HM
   exact hK.out _ _ ⟨v174, v177, v180, v183, v186, v189, PUT (PCH ha 16 (hoff 16 rfl)) 7 hb, ((HM.sF 1 rfl (hoff 17 rfl)).iF 1 rfl (hoff 17 rfl)).pick [0, 1, 2, 3, 4]⟩
  refine SZ ?_ ?_
  ·rintro b a w ⟨v174, v177, v180, v183, v186, v189, ha, HM⟩ hb hon hoff K hK
   replace ha := Aside0.mk ha
   refine ST (eL 11 k60 60 ([] : List (S60)) [] (Reps.none _ _) HM rfl ?_)
   clear HM
   intro v180 w30 HM
   replace HM := HM.nm 5 rfl Ny179.out
   exact hK.out _ _ ⟨v174, v177, v180, v183, v186, v189, PUT ha 8 hb, (HM.iF 5 rfl (hoff 11 rfl)).pick [0, 1, 2, 5, 4]⟩
  refine SZ ?_ ?_
  ·rintro b a w ⟨v174, v177, v180, v183, v186, v189, ha, HM⟩ hb hon hoff K hK
   replace ha := Aside0.mk ha
   have e1 := PG ha 1
   exact VL (.pointer (some ⟨gb171, 3, none⟩)) (hK.out _ _ ⟨v174, v177, v180, v183, v186, v189, PUT ha 9 hb, HM⟩)
  refine SZ ?_ ?_
  ·rintro b a w ⟨v174, v177, v180, v183, v186, v189, ha, HM⟩ hb hon hoff K hK
   replace ha := Aside0.mk ha
   obtain ⟨_,_,_,_,_,_,_,_,_,_⟩ := bk5 (HM.bx 0 rfl)
   have e12 := PE ha 9 hon
   exact VL (.slice A0_3 l0_3.length c0_3) (hK.out _ _ ⟨v174, v177, v180, v183, v186, v189, PUT ha 10 hb, HM⟩)
  refine SZ ?_ ?_
  ·rintro b a w ⟨v174, v177, v180, v183, v186, v189, ha, HM⟩ hb hon hoff K hK
   replace ha := Aside0.mk ha
   replace HM := (HM.sF 3 rfl hb).sT 3 rfl (hon 8 rfl)
   have e11 := PE ha 8 hon
   have e13 := PE ha 10 hon
   refine ST (eA 3 (.tmp 11) (.tmp 13) 23 60 k60 v180 y179 l0_3 A0_3 l0_3.length c0_3 HM rfl Tryz.underlying23 info60 rfl (HM.came HR0_3.out) (by have h_ := LMc5.out; omega) ?_ (ops := #[]) (hw := by rfl) (hs := (eval_of e11)) (hx := (eval_of e13)))
   clear HM
   intro v183 w32 HM
   exact hK.out _ _ ⟨v174, v177, v180, v183, v186, v189, PUT (PCH ha 16 (hoff 16 rfl)) 11 hb, ((HM.sF 1 rfl (hoff 17 rfl)).iF 1 rfl (hoff 17 rfl)).pick [0, 1, 2, 3, 4]⟩
  refine SZ ?_ ?_
  ·rintro b a w ⟨v174, v177, v180, v183, v186, v189, ha, HM⟩ hb hon hoff K hK
   replace ha := Aside0.mk ha
   refine ST (eL 15 (Kd.int .i64) 3 ([] : List Int) [] (Reps.none _ _) HM rfl ?_)
   clear HM
   intro v186 w33 HM
   replace HM := HM.nm 5 rfl Ny185.out
   exact hK.out _ _ ⟨v174, v177, v180, v183, v186, v189, PUT ha 12 hb, (HM.iF 5 rfl (hoff 15 rfl)).pick [0, 1, 2, 3, 5]⟩
  refine SZ ?_ ?_
  ·rintro b a w ⟨v174, v177, v180, v183, v186, v189, ha, HM⟩ hb hon hoff K hK
   replace ha := Aside0.mk ha
   have e1 := PG ha 1
   exact VL (.pointer (some ⟨gb171, 4, none⟩)) (hK.out _ _ ⟨v174, v177, v180, v183, v186, v189, PUT ha 13 hb, HM⟩)
  refine SZ ?_ ?_
  ·rintro b a w ⟨v174, v177, v180, v183, v186, v189, ha, HM⟩ hb hon hoff K hK
   replace ha := Aside0.mk ha
   obtain ⟨_,_,_,_,_,_,_,_,_,_⟩ := bk5 (HM.bx 0 rfl)
   have e16 := PE ha 13 hon
   exact VL (.slice A0_4 l0_4.length c0_4) (hK.out _ _ ⟨v174, v177, v180, v183, v186, v189, PUT ha 14 hb, HM⟩)
  refine SZ ?_ ?_
  ·rintro b a w ⟨v174, v177, v180, v183, v186, v189, ha, HM⟩ hb hon hoff K hK
   replace ha := Aside0.mk ha
   replace HM := (HM.sF 4 rfl hb).sT 4 rfl (hon 12 rfl)
   have e15 := PE ha 12 hon
   have e17 := PE ha 14 hon
   refine ST (eA 4 (.tmp 15) (.tmp 17) 24 3 (Kd.int .i64) v186 y185 l0_4 A0_4 l0_4.length c0_4 HM rfl Tryz.underlying24 info3 rfl (HM.came HR0_4.out) (by have h_ := LMc6.out; omega) ?_ (ops := #[]) (hw := by rfl) (hs := (eval_of e15)) (hx := (eval_of e17)))
   clear HM
   intro v189 w35 HM
   exact hK.out _ _ ⟨v174, v177, v180, v183, v186, v189, PUT (PCH ha 16 (hoff 16 rfl)) 15 hb, ((HM.sF 1 rfl (hoff 17 rfl)).iF 1 rfl (hoff 17 rfl)).pick [0, 1, 2, 3, 4]⟩
  refine SZ ?_ ?_
  ·rintro b a w ⟨v174, v177, v180, v183, v186, v189, ha, HM⟩ hb hon hoff K hK
   replace ha := Aside0.mk ha
   have HZ := HM
   replace HM := HM.sT 2 rfl (hon 7 rfl)
   replace HM := HM.sT 3 rfl (hon 11 rfl)
   replace HM := HM.sT 4 rfl (hon 15 rfl)
   obtain ⟨Xo36, ko36, rfl⟩ := HM.rdR 4 rfl
   obtain ⟨Xo37, ko37, rfl⟩ := HM.rdR 3 rfl
   obtain ⟨Xo38, ko38, rfl⟩ := HM.rdR 2 rfl
   have e4 := PE ha 1 hon
   have e6 := PE ha 3 hon
   have e10 := PE ha 7 hon
   have e14 := PE ha 11 hon
   have e18 := PE ha 15 hon
   exact VL (.agg #[.int .i64 a0_0, .int .i64 a0_1, .slice Xo38 (y173 ++ l0_2).length ko38, .slice Xo37 (y179 ++ l0_3).length ko37, .slice Xo36 (y185 ++ l0_4).length ko36]) (hK.out _ _ ⟨v174, .slice Xo38 (y173 ++ l0_2).length ko38, v180, .slice Xo37 (y179 ++ l0_3).length ko37, v186, .slice Xo36 (y185 ++ l0_4).length ko36, PUT ha 16 hb, HZ⟩)
  refine SZ ?_ ?_
  ·rintro b a w ⟨v174, v177, v180, v183, v186, v189, ha, HM⟩ hb hon hoff K hK
   replace ha := Aside0.mk ha
   replace HM := HM.sF 1 rfl hb
   replace HM := HM.sT 2 rfl (hon 7 rfl)
   replace HM := HM.sT 3 rfl (hon 11 rfl)
   replace HM := HM.sT 4 rfl (hon 15 rfl)
   obtain ⟨Xo39, ko39, rfl⟩ := HM.rdR 2 rfl
   obtain ⟨Xo40, ko40, rfl⟩ := HM.rdR 3 rfl
   obtain ⟨Xo41, ko41, rfl⟩ := HM.rdR 4 rfl
   have e2 := PG ha 2
   have e19 := PE ha 16 hon
   refine ST (eS 1 2 0 [.int .i64 a0_0, .int .i64 a0_1, .slice Xo39 (y173 ++ l0_2).length ko39, .slice Xo40 (y179 ++ l0_3).length ko40, .slice Xo41 (y185 ++ l0_4).length ko41] HM rfl rfl ?_ (hp := (eval_of e2)) (hx := (by rw [eval_of e19]; rfl)))
   clear HM
   intro w42 HM
   exact hK.out _ _ ⟨v174, .slice Xo39 (y173 ++ l0_2).length ko39, v180, .slice Xo40 (y179 ++ l0_3).length ko40, v186, .slice Xo41 (y185 ++ l0_4).length ko41, PUS ha, (((HM.iT 2 rfl (hon 7 rfl)).iT 3 rfl (hon 11 rfl)).iT 4 rfl (hon 15 rfl)).pick [0, 1, 2, 3, 4]⟩
  exact steps_nil
 rintro _ w43 ⟨v174, v177, v180, v183, v186, v189, rfl, HM⟩
 replace HM := HM.sT 1 rfl rfl
 replace HM := HM.sT 2 rfl rfl
 replace HM := HM.sT 3 rfl rfl
 replace HM := HM.sT 4 rfl rfl
 simp only [putSel, if_true, Act.put, List.setIfInBounds_toArray, List.set_cons_zero, List.set_cons_succ, gt_iff_lt, ge_iff_le]
 simp only [Option.some.injEq, Prod.mk.injEq] at H
 obtain ⟨rfl, rfl, rfl, rfl, rfl⟩ := H
 go_wp2
 refine bodyPost_ret (results_cell_row rfl _ _ gb172 26 #[.int .i64 a0_0, .int .i64 a0_1, v177, v183, v189] (0, 0) _ rfl (HM.bx 1 rfl) Tryz.underlying26 rfl (by kernel_rfl)) rfl ?_
 exact ⟨_, _, _, ER, (MD HM).pick [2, 3, 4]⟩
end Go.Proofs.YtnlnifpehndacaaGreat.G

namespace Go.Proofs.YtnlnifpehndacaaGreat.G
open Go.RowKit Go.Proofs.YtnlnifpehndacaaGreatW.PrintWords Go.Proofs.YtnlnifpehndacaaGreatW.PrintLast Go.Proofs.YtnlnifpehndacaaGreatW.PrintMore Go.Proofs.YtnlnifpehndacaaGreat.Sh
attribute [local go_sem] max2_int min2_int max_two min_two max_three min_three max_four min_four
set_option linter.unusedVariables false
set_option linter.unusedSimpArgs false
def spec_Hash.l0 : Nat → ByteArray → Int → Int → Option (Int)
 | 0, _, _, _ => none
 | k + 1, x0, x3, x4 => if x4 < (x0.size : Int) then (if 0 ≤ x4 then (spec_Hash.l0 k x0 (Int.tmod (wrap64 ((Go.bits .xor .i64 x3 (wrap64 (bt x0 x4))) * 16777619)) 4294967296) (wrap64 (x4 + 1))) else (none)) else (some x3)
def spec_Hash.f (k : Nat) (a0 : ByteArray) : Option (Int) := spec_Hash.l0 k a0 2166136261 0
theorem spec_Hash.calls (k : Nat) (a0 : ByteArray) (r : Int) (w : World) (h : spec_Hash.f k a0 = some r) :
  Calls Tryz.prog 76 #[.string a0] w fun e w' => e = .returned (.int .i64 r) ∧ Drawn0 w w' := by
 have H : (spec_Hash.l0 k a0 2166136261 0) = some r := h
 clear h
 have H' := Aside0.mk H
 clear H
 go_enter Tryz.func76, Tryz.ntmps76
 go_wp2
 go_loopg [3, 4] k (fun kq v3 v4 w' => ∃ (x3_1 : Int) (x4_1 : Int), v3 = .int .i64 x3_1 ∧ v4 = .int .i64 x4_1 ∧ Aside0 (spec_Hash.l0 kq a0 x3_1 x4_1 = some r) ∧ Aside0 (kq ≤ k) ∧ Drawn0 w w')
 case atStart => exact ⟨(2166136261), (0), RS, RS, H', ⟨Nat.le_refl _⟩, DR⟩
 case round =>
  clear H'
  obtain ⟨x3_1, x4_1, rfl, rfl, HA, HK1, ⟨m1, rfl⟩⟩ := hrel
  cases gk with
  | zero => exact absurd HA.out (by simp [spec_Hash.l0])
  | succ k1 =>
   have H := HA.out
   clear HA
   simp only [spec_Hash.l0] at H
   by_cases c2 : x4_1 < (a0.size : Int)
   ·rw [if_pos c2] at H
    have c2b0 : decide (x4_1 < (a0.size : Int)) = true := decide_eq_true c2
    clear c2
    by_cases c3 : 0 ≤ x4_1
    ·rw [if_pos c3] at H
     have c3b0 : decide (0 ≤ x4_1) = true := decide_eq_true c3
     clear c3
     have H' := Aside0.mk H
     clear H
     have p4 : 0 ≤ (x4_1 : Int) := of_decide_eq_true AS
     have q4 : x4_1 < (a0.size : Int) := of_decide_eq_true AS
     have hx4 := bt_at a0 x4_1
     replace p4 := eq_true p4
     replace q4 := eq_true q4
     go_wp2
     go_roundg k1
     case measure => have := HK1.out; omega
     case rel => exact ⟨(Int.tmod (wrap64 ((Go.bits .xor .i64 x3_1 (wrap64 (bt a0 x4_1))) * 16777619)) 4294967296), (wrap64 (x4_1 + 1)), RS, RS, H', ⟨by have := HK1.out; omega⟩, DR⟩
    ·rw [if_neg c3] at H
     exact absurd H (by simp)
   ·rw [if_neg c2] at H
    have c2b0 : decide (x4_1 < (a0.size : Int)) = false := decide_eq_false c2
    clear c2
    obtain rfl := Option.some.inj H
    go_wp2
    go_ret
    exact ⟨by first | rfl | (simp; done) | (simp [*]; done), DR⟩
end Go.Proofs.YtnlnifpehndacaaGreat.G

namespace Go.Proofs.YtnlnifpehndacaaGreat.G
open Go.RowKit Go.Proofs.YtnlnifpehndacaaGreatW.PrintWords Go.Proofs.YtnlnifpehndacaaGreatW.PrintLast Go.Proofs.YtnlnifpehndacaaGreatW.PrintMore Go.Proofs.YtnlnifpehndacaaGreat.Sh
attribute [local go_sem] max2_int min2_int max_two min_two max_three min_three max_four min_four
set_option linter.unusedVariables false
set_option linter.unusedSimpArgs false
open Go.Proofs.YtnlnifpehndacaaGreat.Mm
def spec_l08But.l0 : Nat → Int → List Int → List Int → Int → Int → Option (List Int)
 | 0, _, _, _, _, _ => none
 | k + 1, x1, x5, x9, x10, x11 => if x11 < x10 then (if 0 ≤ x11 then (if x11 < (x9.length : Int) then (if (rd x9 x11) = x1 then (spec_l08But.l0 k x1 x5 x9 x10 (wrap64 (x11 + 1))) else (if x5.length < 17592186044416 then (spec_l08But.l0 k x1 (x5 ++ [rd x9 x11]) x9 x10 (wrap64 (x11 + 1))) else (none))) else (none)) else (none)) else (some x5)
def spec_l08But.f (k : Nat) (l0 : List Int) (a1 : Int) : Option (List Int) := spec_l08But.l0 k a1 (([] : List Int)) l0 (l0.length : Int) 0
theorem spec_l08But.calls (k : Nat) (A0 : Option Addr) (c0 : Nat) (l0 : List Int) (a1 : Int) (r : List Int) (w : World) (hr0 : Kd.C (Kd.int .i64) w A0 l0.length l0) (hc0 : l0.length ≤ c0) (h : spec_l08But.f k l0 a1 = some r) :
  Calls Tryz.prog 77 #[.slice A0 l0.length c0, .int .i64 a1] w fun e w' => ∃ v0_ : Value, e = .returned (v0_) ∧ Mem w [] w' [rowR (Kd.int .i64) 3 v0_ r] := by
 have HR0 := Aside0.mk hr0
 have HC0 := Aside0.mk hc0
 clear hr0 hc0
 have HM := Mem.nil w
 have H := h
 clear h
 unfold spec_l08But.f at H
 go_enter Tryz.func77, Tryz.ntmps77
 have H' := Aside0.mk H
 clear H
 go_wp2_with (first | ((with_reducible refine gN 8 rfl ?_); refine pL 8 (Kd.int .i64) 3 ([] : List Int) [] (Reps.none _ _) HM rfl ?_; clear HM; intro v192 w3 HM))
 go_loopg [5, 11] k (fun kq v5 v11 w' => ∃ (x5_1 : List Int) (x11_1 : Int), v11 = .int .i64 x11_1 ∧ Aside0 (spec_l08But.l0 kq a1 x5_1 l0 (l0.length : Int) x11_1 = some r) ∧ Aside0 (kq ≤ k) ∧ Mem w [] w' [rowR (Kd.int .i64) 3 v5 x5_1])
 case atStart => exact ⟨((([] : List Int))), (0), RS, H', ⟨Nat.le_refl _⟩, (MD HM).pick [0]⟩
 case round =>
  clear H' HM
  obtain ⟨x5_1, x11_1, rfl, HA, HK1, HM⟩ := hrel
  cases gk with
  | zero => exact absurd HA.out (by simp [spec_l08But.l0])
  | succ k1 =>
   have H := HA.out
   clear HA
   simp only [spec_l08But.l0] at H
   go_upto_if 12 with (fail)
   replace H := IT H; rcases H with ⟨c4, H⟩ | ⟨c4, H⟩
   ·have c4b0 := decide_eq_true c4
    clear c4
    first|rw [c4b0]|(simp only [i64_w, i32_w]; rw [c4b0])|skip
    replace H := GD H; obtain ⟨c5, H⟩ := H
    have c5b0 := decide_eq_true c5
    clear c5
    replace H := GD H; obtain ⟨c6, H⟩ := H
    have c6b0 := decide_eq_true c6
    clear c6
    have p194 : 0 ≤ (x11_1 : Int) := of_decide_eq_true AS
    have q194 : (x11_1 : Int) < (l0.length : Int) := of_decide_eq_true AS
    obtain ⟨ad194, e194, hx194_0⟩ := Kd.at_int (HM.came HR0.out) x11_1 p194 q194
    cases e194
    replace p194 := eq_true p194
    replace q194 := eq_true q194
    go_upto_if 17 with (fail)
    replace H := IT H; rcases H with ⟨c7, H⟩ | ⟨c7, H⟩
    ·obtain ⟨c7b0, c7b1⟩ := BE c7
     clear c7
     first|rw [c7b0]|(simp only [i64_w, i32_w]; rw [c7b0])|skip
     have H' := Aside0.mk H
     clear H
     go_wp2
     go_roundg k1
     case measure => have := HK1.out; omega
     case rel => exact ⟨(x5_1), (wrap64 (x11_1 + 1)), RS, H', ⟨by have := HK1.out; omega⟩, (MD HM).pick [0]⟩
    ·obtain ⟨c7b0, c7b1⟩ := BF c7
     first|rw [c7b0]|(simp only [i64_w, i32_w]; rw [c7b0])|skip
     replace H := GD H; obtain ⟨c8, H⟩ := H
     have LMc8 := Aside0.mk c8
     clear c8
     have H' := Aside0.mk H
     clear H
     go_wp2_with (first | ((with_reducible refine gN 20 rfl ?_); refine pL 20 (Kd.int .i64) 3 [rd l0 x11_1] [.int .i64 (rd l0 x11_1)] (Reps.one (show Kd.M (Kd.int .i64) _ _ _ (rd l0 x11_1) [.int .i64 (rd l0 x11_1)] from rfl) (Reps.none _ _)) HM rfl ?_; clear HM; intro v10 w9 HM; obtain ⟨Xv10, kv10, rfl⟩ := HM.rdR 1 rfl) | ((with_reducible refine gate_builtin (b := .append) (xs := #[.tmp 18, .tmp 20]) rfl ?_); refine pA 0 (.tmp 18) (.tmp 20) 24 3 (Kd.int .i64) u5 x5_1 [rd l0 x11_1] Xv10 ([rd l0 x11_1].length) kv10 HM rfl Tryz.underlying24 info3 rfl (HM.CR 1 rfl).2.2 (by have h_ := LMc8.out; simp only [List.length_singleton]; omega) ?_; clear HM; intro v196 w11 HM))
     go_roundg k1
     case measure => have := HK1.out; omega
     case rel => exact ⟨((x5_1 ++ [rd l0 x11_1])), (wrap64 (x11_1 + 1)), RS, H', ⟨by have := HK1.out; omega⟩, (MD HM).pick [0]⟩
   ·have c4b0 := decide_eq_false c4
    clear c4
    first|rw [c4b0]|(simp only [i64_w, i32_w]; rw [c4b0])|skip
    obtain rfl := Option.some.inj H
    go_wp2
    go_ret
    exact ⟨_, ER, (MD HM).pick [0]⟩
def spec_l10Haunt.f (k : Nat) (a0_0 : Int) (a0_1 : Int) (l0_2 : List (S60)) (l0_3 : List (S60)) (l0_4 : List Int) (a1 : Int) : Option (Int × Int × (List (S60)) × (List (S60)) × List Int) := (spec_l08But.f k l0_4 a1).bind fun t200 => (if t200.length < 17592186044416 then ((some (t200 ++ [a1] : List Int)).bind fun y203 => ((spec_l10Ghosts.f a0_0 a0_1 l0_2 l0_3 y203).bind fun t206 => (if (y203.length : Int) > t206 then (if 1 ≤ (y203.length : Int) then (some (a0_0, a0_1, l0_2, l0_3, (y203.drop (1 : Int).toNat))) else (none)) else (some (a0_0, a0_1, l0_2, l0_3, y203))))) else (none))
def spec_l10Haunt.T2 : Bool × List (List Nat × List Nat) := (true, [([], []), ([0], [0]), ([1], [1]), ([], []), ([3], [3]), ([2, 4], [2, 4])])
def spec_l10Haunt.B2 : List Nat := [0, 1, 3, 0, 8, 31]
theorem spec_l10Haunt.tab2 : rtab .any (opsOf Tryz.f95 2) = spec_l10Haunt.T2 := by kernel_rfl
theorem spec_l10Haunt.bits2 : waitsOk spec_l10Haunt.T2.2 spec_l10Haunt.B2 = true := by kernel_rfl
theorem spec_l10Haunt.calls (k : Nat) (a0_0 : Int) (a0_1 : Int) (u9000_ : Value) (l0_2 : List (S60)) (u9001_ : Value) (l0_3 : List (S60)) (A0_4 : Option Addr) (c0_4 : Nat) (l0_4 : List Int) (a1 : Int) (r1 : Int) (r2 : Int) (r3 : List (S60)) (r4 : List (S60)) (r5 : List Int) (w0 w : World) (F : List SP)  (hM : Mem w0 F w [rowR k60 60 u9000_ l0_2, rowR k60 60 u9001_ l0_3, row (Kd.int .i64) 3 (.slice A0_4 l0_4.length c0_4) l0_4]) (h : spec_l10Haunt.f k a0_0 a0_1 l0_2 l0_3 l0_4 a1 = some (r1, r2, r3, r4, r5)) :
  Calls Tryz.prog 95 #[.agg #[.int .i64 a0_0, .int .i64 a0_1, u9000_, u9001_, .slice A0_4 l0_4.length c0_4], .int .i64 a1] w fun e w' => ∃ v2_ v3_ v4_ : Value, e = .returned (.agg #[.int .i64 r1, .int .i64 r2, v2_, v3_, v4_]) ∧ Mem w0 F w' [rowR k60 60 v2_ r3, rowR k60 60 v3_ r4, row (Kd.int .i64) 3 v4_ r5, row (Kd.int .i64) 3 (.slice A0_4 l0_4.length c0_4) l0_4] := by
 have hu26 := Tryz.underlying26
 have HM := hM
 clear hM
 have H := h
 clear h
 unfold spec_l10Haunt.f at H
 go_enter Tryz.func95, Tryz.ntmps95
 replace H := BN H; obtain ⟨t200, A8, H⟩ := H
 replace H := GD H; obtain ⟨c10, H⟩ := H
 have LMc10 := Aside0.mk c10
 clear c10
 replace H := BLt H; obtain ⟨y203, Ny203, H⟩ := H
 replace Ny203 := Aside0.mk Ny203
 obtain ⟨Xo3, ko3, rfl⟩ := HM.rdR 0 rfl
 obtain ⟨Xo4, ko4, rfl⟩ := HM.rdR 1 rfl
 try go_wp2_with (first | ((with_reducible refine gN 2 rfl ?_); refine pB 2 26 [.int .i64 a0_0, .int .i64 a0_1, .slice Xo3 l0_2.length ko3, .slice Xo4 l0_3.length ko4, .slice A0_4 l0_4.length c0_4] HM rfl ?_; clear HM; intro gb198 w5 HM) | ((with_reducible refine gN 4 rfl ?_); refine pB 4 26 [.int .i64 0, .int .i64 0, .slice none 0 0, .slice none 0 0, .slice none 0 0] HM rfl ?_; clear HM; intro gb199 w6 HM; obtain ⟨_,_,_,_,_,_,_,_,_,_⟩ := bk5 (HM.bx 3 rfl)) | ((with_reducible refine gC 77 rfl ?_); refine pC (some 8) rfl #[.slice A0_4 l0_4.length c0_4, .int .i64 a1] rfl Tryz.func77 (spec_l08But.calls k _ _ l0_4 a1 t200 _ (HM.C 2 rfl).2.2 (HM.C 2 rfl).2.1 A8.out) ?_; rintro e w9 ⟨v201, rfl, hR⟩; refine ⟨_, rfl, ?_⟩; replace HM := HM.call hR; clear hR) | ((with_reducible refine gN 10 rfl ?_); refine pL 10 (Kd.int .i64) 3 [a1] [.int .i64 a1] (Reps.one (show Kd.M (Kd.int .i64) _ _ _ a1 [.int .i64 a1] from rfl) (Reps.none _ _)) HM rfl ?_; clear HM; intro v12 w11 HM; obtain ⟨Xv12, kv12, rfl⟩ := HM.rdR 6 rfl) | ((with_reducible refine gate_builtin (b := .append) (xs := #[.tmp 8, .tmp 10]) rfl ?_); refine pA 5 (.tmp 8) (.tmp 10) 24 3 (Kd.int .i64) v201 t200 [a1] Xv12 ([a1].length) kv12 HM rfl Tryz.underlying24 info3 rfl (HM.CR 6 rfl).2.2 (by have h_ := LMc10.out; simp only [List.length_singleton]; omega) ?_; clear HM; intro v204 w13 HM; replace HM := HM.nm 5 rfl Ny203.out; obtain ⟨Xo14, ko14, rfl⟩ := HM.rdR 5 rfl) | ((with_reducible refine gS 12 rfl ?_); refine pS 3 12 4 [.slice Xo14 y203.length ko14] HM rfl rfl ?_; clear HM; intro w15 HM))
 replace H := BN H; obtain ⟨t206, A16, H⟩ := H
 refine RGN 6 [0, 1, 2, 3, 4, 5] (fun a0 b a w' => a = putSel a0 b [(0, 13, .pointer (some ⟨gb198, 4, none⟩)), (1, 14, .slice Xo14 y203.length ko14), (2, 15, .int .i64 (y203.length : Int)), (3, 16, .agg #[.int .i64 a0_0, .int .i64 a0_1, .slice Xo3 l0_2.length ko3, .slice Xo4 l0_3.length ko4, .slice Xo14 y203.length ko14]), (4, 17, .int .i64 t206), (5, 18, .bool (decide ((y203.length : Int) > t206)))] ∧ Mem w0 F w' [rowR k60 60 (.slice Xo3 l0_2.length ko3) l0_2, rowR k60 60 (.slice Xo4 l0_3.length ko4) l0_3, row (Kd.int .i64) 3 (.slice A0_4 l0_4.length c0_4) l0_4, box 26 gb198 [.int .i64 a0_0, .int .i64 a0_1, .slice Xo3 l0_2.length ko3, .slice Xo4 l0_3.length ko4, .slice Xo14 y203.length ko14], box 26 gb199 [.int .i64 0, .int .i64 0, .slice none 0 0, .slice none 0 0, .slice none 0 0], rowR (Kd.int .i64) 3 (.slice Xo14 y203.length ko14) y203, rowR (Kd.int .i64) 3 (.slice Xv12 [a1].length kv12) [a1]]) spec_l10Haunt.tab2 spec_l10Haunt.bits2 ?_ ?_ ?_
 ·exact ⟨PS0' rfl _, (HM.drew).pick [0, 1, 2, 3, 4, 5, 6]⟩
 ·clear HM
  refine SY ?_ ?_
  ·intro b a w ha HM hb hon hoff K hK
   have e2 := PG ha 2
   exact VL (.pointer (some ⟨gb198, 4, none⟩)) (hK.out _ _ ⟨PUT ha 0 hb, HM⟩)
  refine SY ?_ ?_
  ·intro b a w ha HM hb hon hoff K hK
   obtain ⟨_,_,_,_,_,_,_,_,_,_⟩ := bk5 (HM.bx 3 rfl)
   have e13 := PE ha 0 hon
   exact VL (.slice Xo14 y203.length ko14) (hK.out _ _ ⟨PUT ha 1 hb, HM⟩)
  refine SY ?_ ?_
  ·intro b a w ha HM hb hon hoff K hK
   have e14 := PE ha 1 hon
   exact VL (.int .i64 (y203.length : Int)) (hK.out _ _ ⟨PUT ha 2 hb, HM⟩)
  refine SY ?_ ?_
  ·intro b a w ha HM hb hon hoff K hK
   obtain ⟨_,_,_,_,_,_,_,_,_,_⟩ := bk5 (HM.bx 3 rfl)
   have e2 := PG ha 2
   exact VL (.agg #[.int .i64 a0_0, .int .i64 a0_1, .slice Xo3 l0_2.length ko3, .slice Xo4 l0_3.length ko4, .slice Xo14 y203.length ko14]) (hK.out _ _ ⟨PUT ha 3 hb, HM⟩)
  refine SY ?_ ?_
  ·intro b a w ha HM hb hon hoff K hK
   have e16 := PE ha 3 hon
   refine ST (eC (some 17) rfl #[.agg #[.int .i64 a0_0, .int .i64 a0_1, .slice Xo3 l0_2.length ko3, .slice Xo4 l0_3.length ko4, .slice Xo14 y203.length ko14]] rfl Tryz.func68 (spec_l10Ghosts.calls a0_0 a0_1 _ _ l0_2 _ _ l0_3 _ _ y203 t206 _ (HM.CR 0 rfl).2.2 (HM.CR 0 rfl).2.1 (HM.CR 1 rfl).2.2 (HM.CR 1 rfl).2.1 (HM.CR 5 rfl).2.2 (HM.CR 5 rfl).2.1 A16.out) ?_ (hargs := by (simp only [List.map_toArray, List.map_cons, List.map_nil, evc, eval_of e16]) <;> rfl))
   rintro e w22 ⟨rfl, hR⟩
   refine ⟨_, rfl, ?_⟩
   replace HM := HM.call hR
   clear hR
   exact hK.out _ _ ⟨PUT ha 4 hb, (HM).pick [0, 1, 2, 3, 4, 5, 6]⟩
  refine SY ?_ ?_
  ·intro b a w ha HM hb hon hoff K hK
   have e15 := PE ha 2 hon
   have e17 := PE ha 4 hon
   exact VL (.bool (decide ((y203.length : Int) > t206))) (hK.out _ _ ⟨PUT ha 5 hb, HM⟩)
  exact steps_nil
 rintro _ w23 ⟨rfl, HM⟩
 simp only [putSel, if_true, Act.put, List.setIfInBounds_toArray, List.set_cons_zero, List.set_cons_succ, gt_iff_lt, ge_iff_le]
 go_upto_if 18 with (fail)
 replace H := IT H; rcases H with ⟨c24, H⟩ | ⟨c24, H⟩
 ·have c24b0 : decide (t206 < (y203.length : Int)) = true := decide_eq_true c24
  clear c24
  first|rw [c24b0]|(simp only [i64_w, i32_w]; rw [c24b0])|skip
  replace H := GD H; obtain ⟨c26, H⟩ := H
  have c26b0 := eq_true c26
  have c26b1 : decide (1 ≤ (y203.length : Int)) = true := decide_eq_true c26
  clear c26
  simp only [Option.some.injEq, Prod.mk.injEq] at H
  obtain ⟨rfl, rfl, rfl, rfl, rfl⟩ := H
  obtain ⟨_,_,_,_,_,_,_,_,_,_⟩ := bk5 (HM.bx 3 rfl)
  go_wp2_with (first | ((with_reducible refine gate_sl (t := 24) rfl ?_); refine pD 5 24 3 (Kd.int .i64) _ _ 1 y203 Xo14 ko14 HM rfl Tryz.underlying24 info3 rfl (fun _ _ h => Kd.Q_of_R h) (by omega) (by have h_ : (1 : Int) ≤ ((y203.length : Int) : Int) := of_decide_eq_true AS; first | exact h_ | (have e_ := (HM.CR 5 rfl).1; omega)) ?_; clear HM; intro v208 HM; obtain ⟨Xo27, ko27, rfl⟩ := HM.rd 5 rfl) | ((with_reducible refine gS 22 rfl ?_); refine pS 3 22 4 [.slice Xo27 (y203.drop (1 : Int).toNat).length ko27] HM rfl rfl ?_; clear HM; intro w28 HM; obtain ⟨_,_,_,_,_,_,_,_,_,_⟩ := bk5 (HM.bx 3 rfl)) | ((with_reducible refine gS 4 rfl ?_); refine pS 4 4 0 [.int .i64 a0_0, .int .i64 a0_1, .slice Xo3 l0_2.length ko3, .slice Xo4 l0_3.length ko4, .slice Xo27 (y203.drop (1 : Int).toNat).length ko27] HM rfl rfl ?_; clear HM; intro w30 HM))
  refine bodyPost_ret (results_cell_row rfl _ _ gb199 26 #[.int .i64 a0_0, .int .i64 a0_1, .slice Xo3 l0_2.length ko3, .slice Xo4 l0_3.length ko4, .slice Xo27 (y203.drop (1 : Int).toNat).length ko27] (0, 0) _ rfl (HM.bx 4 rfl) Tryz.underlying26 rfl (by kernel_rfl)) rfl ?_
  exact ⟨_, _, _, ER, (MD HM).pick [0, 1, 5, 2]⟩
 ·have c24b0 : decide (t206 < (y203.length : Int)) = false := decide_eq_false c24
  clear c24
  first|rw [c24b0]|(simp only [i64_w, i32_w]; rw [c24b0])|skip
  simp only [Option.some.injEq, Prod.mk.injEq] at H
  obtain ⟨rfl, rfl, rfl, rfl, rfl⟩ := H
  obtain ⟨_,_,_,_,_,_,_,_,_,_⟩ := bk5 (HM.bx 3 rfl)
  go_wp2_with (first | ((with_reducible refine gS 4 rfl ?_); refine pS 4 4 0 [.int .i64 a0_0, .int .i64 a0_1, .slice Xo3 l0_2.length ko3, .slice Xo4 l0_3.length ko4, .slice Xo14 y203.length ko14] HM rfl rfl ?_; clear HM; intro w32 HM; replace HM := HM.toQ 5 rfl))
  refine bodyPost_ret (results_cell_row rfl _ _ gb199 26 #[.int .i64 a0_0, .int .i64 a0_1, .slice Xo3 l0_2.length ko3, .slice Xo4 l0_3.length ko4, .slice Xo14 y203.length ko14] (0, 0) _ rfl (HM.bx 4 rfl) Tryz.underlying26 rfl (by kernel_rfl)) rfl ?_
  exact ⟨_, _, _, ER, (MD HM).pick [0, 1, 5, 2]⟩
def spec_EvictSmall.l0 : Nat → Int → Int → List (S60) → List (S60) → List Int → Option (Int × Int × (List (S60)) × (List (S60)) × List Int × ByteArray × Bool)
 | 0, _, _, _, _, _ => none
 | k + 1, x225000, x225001, x225002, x225003, x225004 => if (x225002.length : Int) > 0 then (if 0 < (x225002.length : Int) then ((some (([] : List (S60)) : List (S60))).bind fun y227 => (if 1 ≤ (x225002.length : Int) then ((some (x225002.drop 1 : List (S60))).bind fun y230 => (if y227.length + y230.length < 3518437208883 then ((some (y227 ++ y230 : List (S60))).bind fun y234 => (if ((rd_T60 x225002 0).f2) ≤ 1 then ((spec_Hash.f k ((rd_T60 x225002 0).f0)).bind fun t237 => ((spec_l10Haunt.f k x225000 x225001 y234 x225003 x225004 t237).bind fun bt238 => (some (bt238.1, bt238.2.1, bt238.2.2.1, bt238.2.2.2.1, bt238.2.2.2.2, (rd_T60 x225002 0).f0, true)))) else (if x225003.length < 3518437208883 then (spec_EvictSmall.l0 k x225000 x225001 y234 (x225003 ++ [(⟨(rd_T60 x225002 0).f0, (rd_T60 x225002 0).f1, 0⟩ : S60)]) x225004) else (none)))) else (none))) else (none))) else (none)) else (some (x225000, x225001, x225002, x225003, x225004, (⟨#[]⟩ : ByteArray), false))
def spec_EvictSmall.f (k : Nat) (a0_0 : Int) (a0_1 : Int) (l0_2 : List (S60)) (l0_3 : List (S60)) (l0_4 : List Int) : Option (Int × Int × (List (S60)) × (List (S60)) × List Int × ByteArray × Bool) := (spec_ThreeOk.f k a0_0 a0_1 l0_2 l0_3 l0_4).bind fun t212 => (if t212 = true then ((spec_l10Copy.f a0_0 a0_1 l0_2 l0_3 l0_4).bind fun bt213 => (spec_EvictSmall.l0 k bt213.1 bt213.2.1 bt213.2.2.1 bt213.2.2.2.1 bt213.2.2.2.2)) else (some (0, 0, ([] : List (S60)), ([] : List (S60)), ([] : List Int), (⟨#[]⟩ : ByteArray), false)))
def spec_EvictSmall.T8 : Bool × List (List Nat × List Nat) := (true, [([], []), ([], []), ([1], [1]), ([2], [2]), ([0, 3, 3], [0, 3]), ([], []), ([5], [5]), ([4, 4, 0, 1, 2, 3, 4], [4]), ([6, 7, 0, 1, 2, 3, 4, 5, 6, 7], [6]), ([8, 0, 1, 2, 3, 4, 5, 6, 7, 8], [])])
def spec_EvictSmall.B8 : List Nat := [0, 0, 2, 6, 15, 0, 32, 31, 255, 511]
theorem spec_EvictSmall.tab8 : rtab .any (opsOf Tryz.f87 8) = spec_EvictSmall.T8 := by kernel_rfl
theorem spec_EvictSmall.bits8 : waitsOk spec_EvictSmall.T8.2 spec_EvictSmall.B8 = true := by kernel_rfl
theorem spec_EvictSmall.calls (k : Nat) (a0_0 : Int) (a0_1 : Int) (A0_2 : Option Addr) (c0_2 : Nat) (l0_2 : List (S60)) (A0_3 : Option Addr) (c0_3 : Nat) (l0_3 : List (S60)) (A0_4 : Option Addr) (c0_4 : Nat) (l0_4 : List Int) (r1 : Int) (r2 : Int) (r3 : List (S60)) (r4 : List (S60)) (r5 : List Int) (r6 : ByteArray) (r7 : Bool) (w : World) (hr0_2 : Kd.C k60 w A0_2 l0_2.length l0_2) (hc0_2 : l0_2.length ≤ c0_2) (hr0_3 : Kd.C k60 w A0_3 l0_3.length l0_3) (hc0_3 : l0_3.length ≤ c0_3) (hr0_4 : Kd.C (Kd.int .i64) w A0_4 l0_4.length l0_4) (hc0_4 : l0_4.length ≤ c0_4) (h : spec_EvictSmall.f k a0_0 a0_1 l0_2 l0_3 l0_4 = some (r1, r2, r3, r4, r5, r6, r7)) :
  Calls Tryz.prog 87 #[.agg #[.int .i64 a0_0, .int .i64 a0_1, .slice A0_2 l0_2.length c0_2, .slice A0_3 l0_3.length c0_3, .slice A0_4 l0_4.length c0_4]] w fun e w' => ∃ v2_ v3_ v4_ : Value, e = .returned (.tuple #[.agg #[.int .i64 r1, .int .i64 r2, v2_, v3_, v4_], .string r6, .bool r7]) ∧ Mem w [] w' [rowR k60 60 v2_ r3, rowR k60 60 v3_ r4, row (Kd.int .i64) 3 v4_ r5] := by
 have hu26 := Tryz.underlying26
 have hu60 := Tryz.underlying60
 have HR0_2 := Aside0.mk hr0_2
 have HC0_2 := Aside0.mk hc0_2
 clear hr0_2 hc0_2
 have HR0_3 := Aside0.mk hr0_3
 have HC0_3 := Aside0.mk hc0_3
 clear hr0_3 hc0_3
 have HR0_4 := Aside0.mk hr0_4
 have HC0_4 := Aside0.mk hc0_4
 clear hr0_4 hc0_4
 have HM := Mem.nil w
 have H := h
 clear h
 unfold spec_EvictSmall.f at H
 go_enter Tryz.func87, Tryz.ntmps87
 replace H := BN H; obtain ⟨t212, A5, H⟩ := H
 go_upto_if 9 with (first | ((with_reducible refine gN 1 rfl ?_); refine pB 1 26 [.int .i64 a0_0, .int .i64 a0_1, .slice A0_2 l0_2.length c0_2, .slice A0_3 l0_3.length c0_3, .slice A0_4 l0_4.length c0_4] HM rfl ?_; clear HM; intro gb210 w2 HM) | ((with_reducible refine gN 2 rfl ?_); refine pB 2 26 [.int .i64 0, .int .i64 0, .slice none 0 0, .slice none 0 0, .slice none 0 0] HM rfl ?_; clear HM; intro gb211 w3 HM; obtain ⟨_,_,_,_,_,_,_,_,_,_⟩ := bk5 (HM.bx 0 rfl)) | ((with_reducible refine gC 47 rfl ?_); refine pC (some 8) rfl #[.agg #[.int .i64 a0_0, .int .i64 a0_1, .slice A0_2 l0_2.length c0_2, .slice A0_3 l0_3.length c0_3, .slice A0_4 l0_4.length c0_4]] rfl Tryz.func47 (spec_ThreeOk.calls k a0_0 a0_1 _ _ l0_2 _ _ l0_3 _ _ l0_4 t212 _ (HM.came HR0_2.out) HC0_2.out (HM.came HR0_3.out) HC0_3.out (HM.came HR0_4.out) HC0_4.out A5.out) ?_; rintro e w6 ⟨rfl, hR⟩; refine ⟨_, rfl, ?_⟩; replace HM := HM.call hR; clear hR))
 replace HM := nzM HM
 replace H := IB H
 rcases H with ⟨c7, H⟩ | ⟨c7, H⟩
 ·subst c7
  replace H := BN H; obtain ⟨⟨t213, t214, t215, t218, t221⟩, A9, H⟩ := H
  have H' := Aside0.mk H
  clear H
  obtain ⟨_,_,_,_,_,_,_,_,_,_⟩ := bk5 (HM.bx 0 rfl)
  go_wp2_with (first | ((with_reducible refine gC 74 rfl ?_); refine pC (some 12) rfl #[.agg #[.int .i64 a0_0, .int .i64 a0_1, .slice A0_2 l0_2.length c0_2, .slice A0_3 l0_3.length c0_3, .slice A0_4 l0_4.length c0_4]] rfl Tryz.func74 (spec_l10Copy.calls a0_0 a0_1 _ _ l0_2 _ _ l0_3 _ _ l0_4 t213 t214 t215 t218 t221 _ (HM.came HR0_2.out) HC0_2.out (HM.came HR0_3.out) HC0_3.out (HM.came HR0_4.out) HC0_4.out A9.out) ?_; rintro e w10 ⟨v216, v219, v222, rfl, hR⟩; refine ⟨_, rfl, ?_⟩; replace HM := HM.call hR; clear hR) | ((with_reducible refine gN 5 rfl ?_); refine pB 5 26 [.int .i64 0, .int .i64 0, .slice none 0 0, .slice none 0 0, .slice none 0 0] HM rfl ?_; clear HM; intro gb224 w11 HM; obtain ⟨Xo12, ko12, rfl⟩ := HM.rdR 2 rfl; obtain ⟨Xo13, ko13, rfl⟩ := HM.rdR 3 rfl; obtain ⟨Xo14, ko14, rfl⟩ := HM.rdR 4 rfl) | ((with_reducible refine gS 5 rfl ?_); refine pS 5 5 0 [.int .i64 t213, .int .i64 t214, .slice Xo12 t215.length ko12, .slice Xo13 t218.length ko13, .slice Xo14 t221.length ko14] HM rfl rfl ?_; clear HM; intro w15 HM; replace HM := HM.toQ 4 rfl))
  go_loopg [] k (fun kq w' => ∃ (x212000_1 : Int) (x212001_1 : Int) (x225002_1 : List (S60)) (x225003_1 : List (S60)) (u225002 : Value) (u225003 : Value), Aside0 (spec_EvictSmall.l0 kq t213 t214 x225002_1 x225003_1 t221 = some (r1, r2, r3, r4, r5, r6, r7)) ∧ Aside0 (kq ≤ k) ∧ Mem w [] w' [rowR k60 60 u225002 x225002_1, rowR k60 60 u225003 x225003_1, row (Kd.int .i64) 3 (.slice Xo14 t221.length ko14) t221, box 26 gb210 [.int .i64 a0_0, .int .i64 a0_1, .slice A0_2 l0_2.length c0_2, .slice A0_3 l0_3.length c0_3, .slice A0_4 l0_4.length c0_4], box 26 gb211 [.int .i64 x212000_1, .int .i64 x212001_1, .slice none 0 0, .slice none 0 0, .slice none 0 0], box 26 gb224 [.int .i64 t213, .int .i64 t214, u225002, u225003, (.slice Xo14 t221.length ko14)]])
  case atStart => exact ⟨(0), (0), (t215), (t218), (.slice Xo12 t215.length ko12), (.slice Xo13 t218.length ko13), H', ⟨Nat.le_refl _⟩, (MD HM).pick [2, 3, 4, 0, 1, 5]⟩
  case round =>
   clear H' HM
   obtain ⟨x212000_1, x212001_1, x225002_1, x225003_1, u225002, u225003, HA, HK1, HM⟩ := hrel
   cases gk with
   | zero => exact absurd HA.out (by simp [spec_EvictSmall.l0])
   | succ k1 =>
    have H := HA.out
    clear HA
    simp only [spec_EvictSmall.l0] at H
    obtain ⟨_,_,_,_,_,_,_,_,_,_⟩ := bk5 (HM.bx 5 rfl)
    obtain ⟨Xo17, ko17, rfl⟩ := HM.rdR 0 rfl
    go_upto_if 16 with (fail)
    replace H := IT H; rcases H with ⟨c18, H⟩ | ⟨c18, H⟩
    ·replace c18 : (x225002_1.length : Int) > 0 := c18
     have c18b0 : decide (0 < (x225002_1.length : Int)) = true := decide_eq_true c18
     have c18b1 : decide (0 < x225002_1.length) = true := decide_eq_true (by omega)
     have c18b9 : decide (0 < x225002_1.length) = true := decide_eq_true (by omega)
     clear c18
     first|rw [c18b0]|rw [c18b9]|(simp only [i64_w, i32_w]; rw [c18b0])|skip
     replace H := GD H; obtain ⟨c19, H⟩ := H
     replace c19 : 0 < (x225002_1.length : Int) := c19
     have c19b0 : decide (0 < (x225002_1.length : Int)) = true := decide_eq_true c19
     have c19b1 : decide (0 < x225002_1.length) = true := decide_eq_true (by omega)
     have c19b9 : decide (0 < x225002_1.length) = true := decide_eq_true (by omega)
     clear c19
     replace H := BLt H; obtain ⟨y227, Ny227, H⟩ := H
     replace Ny227 := Aside0.mk Ny227
     replace H := GD H; obtain ⟨c24, H⟩ := H
     have c24b0 := eq_true c24
     have c24b1 : decide (1 ≤ (x225002_1.length : Int)) = true := decide_eq_true c24
     clear c24
     replace H := BLt H; obtain ⟨_, rfl, H⟩ := H
     replace H := GD H; obtain ⟨c26, H⟩ := H
     have LMc26 := Aside0.mk c26
     clear c26
     replace H := BLt H; obtain ⟨y234, Ny234, H⟩ := H
     replace Ny234 := Aside0.mk Ny234
     have p225 : 0 ≤ (0 : Int) := (by omega)
     have q225 : (0 : Int) < (x225002_1.length : Int) := of_decide_eq_true AS
     obtain ⟨ad225, e225, hx225_0, hx225_1, hx225_2⟩ := at_T60 (HM.CR 0 rfl).2.2 0 p225 q225
     cases e225
     have qi225 : (0 < x225002_1.length) = True := eq_true (by omega)
     (try rw [show ((0 : Int)).toNat = 0 from rfl] at hx225_0)
     (try rw [show 0 * 3 = 0 from rfl] at hx225_0)
     (try rw [Addr.add_zero'] at hx225_0)
     (try rw [show ((0 : Int)).toNat = 0 from rfl] at hx225_1)
     (try rw [show 0 * 3 = 0 from rfl] at hx225_1)
     (try rw [Addr.add_zero'] at hx225_1)
     (try rw [show ((0 : Int)).toNat = 0 from rfl] at hx225_2)
     (try rw [show 0 * 3 = 0 from rfl] at hx225_2)
     (try rw [Addr.add_zero'] at hx225_2)
     replace p225 := eq_true p225
     replace q225 := eq_true q225
     go_upto_if 29 with (first | ((with_reducible refine gN 6 rfl ?_); refine pB 6 60 [.string (⟨#[]⟩ : ByteArray), .string (⟨#[]⟩ : ByteArray), .int .i64 0] HM rfl ?_; clear HM; intro gb226 w20 HM) | ((with_reducible refine gS 6 rfl ?_); refine pS 6 6 0 [.string ((rd_T60 x225002_1 0).f0), .string ((rd_T60 x225002_1 0).f1), .int .i64 ((rd_T60 x225002_1 0).f2)] HM rfl rfl ?_; clear HM; intro w21 HM) | ((with_reducible refine gN 21 rfl ?_); refine pL 21 k60 60 ([] : List (S60)) [] (Reps.none _ _) HM rfl ?_; clear HM; intro v228 w22 HM; replace HM := HM.nm 7 rfl Ny227.out; obtain ⟨_,_,_,_,_,_,_,_,_,_⟩ := bk5 (HM.bx 5 rfl)) | ((with_reducible refine gate_sl (t := 23) rfl ?_); refine pRdf 23 60 k60 _ _ 1 x225002_1 (some ad225) ko17 rfl Tryz.underlying23 info60 (HM.CR 0 rfl).2.1 (by omega) (of_decide_eq_true AS) ?_; intro Yx25 bx25 hYx25 hbx25; have HYx25 := Aside0.mk hYx25; have HBx25 := Aside0.mk hbx25; clear hYx25 hbx25) | ((with_reducible refine gate_builtin (b := .append) (xs := #[.tmp 21, .tmp 24]) rfl ?_); refine pA 7 (.tmp 21) (.tmp 24) 23 60 k60 v228 y227 (x225002_1.drop 1) Yx25 ((x225002_1.drop 1).length) bx25 HM rfl Tryz.underlying23 info60 rfl (HYx25.out _ (HM.CR 0 rfl).2.2) (by have h_ := LMc26.out; omega) ?_; clear HM; intro v235 w27 HM; replace HM := HM.nm 7 rfl Ny234.out; obtain ⟨Xo28, ko28, rfl⟩ := HM.rdR 7 rfl) | ((with_reducible refine gS 26 rfl ?_); refine pS 5 26 2 [.slice Xo28 y234.length ko28] HM rfl rfl ?_; clear HM; intro w29 HM; obtain ⟨_,_,_,_,_,_⟩ := bk3 (HM.bx 6 rfl)))
     replace HM := nzM HM
     replace H := IT H; rcases H with ⟨c31, H⟩ | ⟨c31, H⟩
     ·have c31b0 : decide (((rd_T60 x225002_1 0).f2) ≤ 1) = true := decide_eq_true c31
      clear c31
      first|rw [c31b0]|(simp only [i64_w, i32_w]; rw [c31b0])|skip
      try go_wp2
      replace H := BN H; obtain ⟨t237, A32, H⟩ := H
      replace H := BN H; obtain ⟨⟨t238, t239, t240, t243, t246⟩, A33, H⟩ := H
      obtain ⟨Xo43, ko43, rfl⟩ := HM.rdR 1 rfl
      refine RGN 10 [0, 1, 2, 3, 4, 5, 6, 7, 8, 9] (fun a0 b a w' => ∃ (v241 : Value) (v244 : Value) (v247 : Value), a = putSel a0 b [(0, 30, .agg #[.int .i64 t213, .int .i64 t214, .slice Xo28 y234.length ko28, .slice Xo43 x225003_1.length ko43, .slice Xo14 t221.length ko14]), (1, 31, .pointer (some ⟨gb226, 0, none⟩)), (2, 32, .string ((rd_T60 x225002_1 0).f0)), (3, 33, .int .i64 t237), (4, 34, .agg #[.int .i64 t238, .int .i64 t239, v241, v244, v247]), (5, 35, .pointer (some ⟨gb226, 0, none⟩)), (6, 36, .string ((rd_T60 x225002_1 0).f0)), (8, 3, .string ((rd_T60 x225002_1 0).f0)), (9, 4, .bool true)] ∧ Mem w [] w' [rowR k60 60 (.slice (some ad225) x225002_1.length ko17) x225002_1, sel (b 4) (emp) (rowR k60 60 (.slice Xo43 x225003_1.length ko43) x225003_1), row (Kd.int .i64) 3 (.slice Xo14 t221.length ko14) t221, box 26 gb210 [.int .i64 a0_0, .int .i64 a0_1, .slice A0_2 l0_2.length c0_2, .slice A0_3 l0_3.length c0_3, .slice A0_4 l0_4.length c0_4], sel (b 7) (box 26 gb211 [.int .i64 t238, .int .i64 t239, v241, v244, v247]) (box 26 gb211 [.int .i64 x212000_1, .int .i64 x212001_1, .slice none 0 0, .slice none 0 0, .slice none 0 0]), box 26 gb224 [.int .i64 t213, .int .i64 t214, .slice Xo28 y234.length ko28, .slice Xo43 x225003_1.length ko43, .slice Xo14 t221.length ko14], box 60 gb226 [.string ((rd_T60 x225002_1 0).f0), .string ((rd_T60 x225002_1 0).f1), .int .i64 ((rd_T60 x225002_1 0).f2)], sel (b 4) (emp) (rowR k60 60 (.slice Xo28 y234.length ko28) y234), sel (b 4) (rowR k60 60 v241 t240) (emp), sel (b 4) (rowR k60 60 v244 t243) (emp), sel (b 4) (row (Kd.int .i64) 3 v247 t246) (emp)]) spec_EvictSmall.tab8 spec_EvictSmall.bits8 ?_ ?_ ?_
      ·exact ⟨.bool false, .bool false, .bool false, PS0' rfl _, (HM.drew.ems 3).pick [0, 1, 2, 3, 4, 5, 6, 7, 8, 9, 10]⟩
      ·clear HM
       refine SZ ?_ ?_
       ·rintro b a w ⟨v241, v244, v247, ha, HM⟩ hb hon hoff K hK
        replace ha := Aside0.mk ha
        obtain ⟨_,_,_,_,_,_,_,_,_,_⟩ := bk5 (HM.bx 5 rfl)
        have e5 := PG ha 5
        exact VL (.agg #[.int .i64 t213, .int .i64 t214, .slice Xo28 y234.length ko28, .slice Xo43 x225003_1.length ko43, .slice Xo14 t221.length ko14]) (hK.out _ _ ⟨v241, v244, v247, PUT ha 0 hb, HM⟩)
       refine SZ ?_ ?_
       ·rintro b a w ⟨v241, v244, v247, ha, HM⟩ hb hon hoff K hK
        replace ha := Aside0.mk ha
        have e6 := PG ha 6
        exact VL (.pointer (some ⟨gb226, 0, none⟩)) (hK.out _ _ ⟨v241, v244, v247, PUT ha 1 hb, HM⟩)
       refine SZ ?_ ?_
       ·rintro b a w ⟨v241, v244, v247, ha, HM⟩ hb hon hoff K hK
        replace ha := Aside0.mk ha
        obtain ⟨_,_,_,_,_,_⟩ := bk3 (HM.bx 6 rfl)
        have e31 := PE ha 1 hon
        exact VL (.string ((rd_T60 x225002_1 0).f0)) (hK.out _ _ ⟨v241, v244, v247, PUT ha 2 hb, HM⟩)
       refine SZ ?_ ?_
       ·rintro b a w ⟨v241, v244, v247, ha, HM⟩ hb hon hoff K hK
        replace ha := Aside0.mk ha
        have e32 := PE ha 2 hon
        refine ST (eC (some 33) rfl #[.string ((rd_T60 x225002_1 0).f0)] rfl Tryz.func76 (spec_Hash.calls k1 ((rd_T60 x225002_1 0).f0) t237 _ A32.out) ?_ (hargs := by (simp only [List.map_toArray, List.map_cons, List.map_nil, evc, eval_of e32]) <;> rfl))
        rintro e w46 ⟨rfl, hd⟩
        refine ⟨_, rfl, ?_⟩
        replace HM := HM.drawn hd
        clear hd
        exact hK.out _ _ ⟨v241, v244, v247, PUT ha 3 hb, (HM).pick [0, 1, 2, 3, 4, 5, 6, 7, 8, 9, 10]⟩
       refine SZ ?_ ?_
       ·rintro b a w ⟨v241, v244, v247, ha, HM⟩ hb hon hoff K hK
        replace ha := Aside0.mk ha
        replace HM := HM.sF 1 rfl hb
        replace HM := HM.sF 7 rfl hb
        have e30 := PE ha 0 hon
        have e33 := PE ha 3 hon
        refine ST (eC (some 34) rfl #[.agg #[.int .i64 t213, .int .i64 t214, .slice Xo28 y234.length ko28, .slice Xo43 x225003_1.length ko43, .slice Xo14 t221.length ko14], .int .i64 t237] rfl Tryz.func95 (spec_l10Haunt.calls k1 t213 t214 (.slice Xo28 y234.length ko28) y234 (.slice Xo43 x225003_1.length ko43) x225003_1 Xo14 ko14 t221 t237 t238 t239 t240 t243 t246 _ _ _ (HM.focus [0, 3, 4, 5, 6, 8, 9, 10] [7, 1, 2]) A33.out) ?_ (hargs := by (simp only [List.map_toArray, List.map_cons, List.map_nil, evc, eval_of e30, eval_of e33]) <;> rfl))
        rintro e w47 ⟨v241, v244, v247, rfl, hR⟩
        refine ⟨_, rfl, ?_⟩
        replace HM := nzM hR.unfocus
        clear hR
        exact hK.out _ _ ⟨v241, v244, v247, PUT ha 4 hb, ((HM.em.em.sF 2 rfl (hoff 7 rfl)).iF 2 rfl (hoff 7 rfl)).pick [0, 12, 11, 1, 2, 3, 4, 13, 8, 9, 10]⟩
       refine SZ ?_ ?_
       ·rintro b a w ⟨v241, v244, v247, ha, HM⟩ hb hon hoff K hK
        replace ha := Aside0.mk ha
        have e6 := PG ha 6
        exact VL (.pointer (some ⟨gb226, 0, none⟩)) (hK.out _ _ ⟨v241, v244, v247, PUT ha 5 hb, HM⟩)
       refine SZ ?_ ?_
       ·rintro b a w ⟨v241, v244, v247, ha, HM⟩ hb hon hoff K hK
        replace ha := Aside0.mk ha
        obtain ⟨_,_,_,_,_,_⟩ := bk3 (HM.bx 6 rfl)
        have e35 := PE ha 5 hon
        exact VL (.string ((rd_T60 x225002_1 0).f0)) (hK.out _ _ ⟨v241, v244, v247, PUT ha 6 hb, HM⟩)
       refine SZ ?_ ?_
       ·rintro b a w ⟨v241, v244, v247, ha, HM⟩ hb hon hoff K hK
        replace ha := Aside0.mk ha
        replace HM := HM.sF 4 rfl hb
        replace HM := HM.sT 8 rfl (hon 4 rfl)
        replace HM := HM.sT 9 rfl (hon 4 rfl)
        replace HM := HM.sT 10 rfl (hon 4 rfl)
        obtain ⟨Xo49, ko49, rfl⟩ := HM.rdR 8 rfl
        obtain ⟨Xo50, ko50, rfl⟩ := HM.rdR 9 rfl
        obtain ⟨Xo51, ko51, rfl⟩ := HM.rd 10 rfl
        have e2 := PG ha 2
        have e34 := PE ha 4 hon
        refine ST (eS 4 2 0 [.int .i64 t238, .int .i64 t239, .slice Xo49 t240.length ko49, .slice Xo50 t243.length ko50, .slice Xo51 t246.length ko51] HM rfl rfl ?_ (hp := (eval_of e2)) (hx := (by rw [eval_of e34]; rfl)))
        clear HM
        intro w52 HM
        exact hK.out _ _ ⟨.slice Xo49 t240.length ko49, .slice Xo50 t243.length ko50, .slice Xo51 t246.length ko51, PUS ha, (((HM.iT 8 rfl (hon 4 rfl)).iT 9 rfl (hon 4 rfl)).iT 10 rfl (hon 4 rfl)).pick [0, 1, 2, 3, 4, 5, 6, 7, 8, 9, 10]⟩
       refine SZ ?_ ?_
       ·rintro b a w ⟨v241, v244, v247, ha, HM⟩ hb hon hoff K hK
        replace ha := Aside0.mk ha
        have e36 := PE ha 6 hon
        exact VL (.string ((rd_T60 x225002_1 0).f0)) (hK.out _ _ ⟨v241, v244, v247, PUT ha 7 hb, HM⟩)
       refine SZ ?_ ?_
       ·rintro b a w ⟨v241, v244, v247, ha, HM⟩ hb hon hoff K hK
        replace ha := Aside0.mk ha
        exact VL (.bool true) (hK.out _ _ ⟨v241, v244, v247, PUT ha 8 hb, HM⟩)
       exact steps_nil
      rintro _ w53 ⟨v241, v244, v247, rfl, HM⟩
      replace HM := HM.sT 1 rfl rfl
      replace HM := HM.sT 4 rfl rfl
      replace HM := HM.sT 7 rfl rfl
      replace HM := HM.sT 8 rfl rfl
      replace HM := HM.sT 9 rfl rfl
      replace HM := HM.sT 10 rfl rfl
      simp only [putSel, if_true, Act.put, List.setIfInBounds_toArray, List.set_cons_zero, List.set_cons_succ, gt_iff_lt, ge_iff_le]
      simp only [Option.some.injEq, Prod.mk.injEq] at H
      obtain ⟨rfl, rfl, rfl, rfl, rfl, rfl, rfl⟩ := H
      go_wp2
      refine bodyPost_ret (results_ctt rfl _ _ gb211 26 #[.int .i64 t238, .int .i64 t239, v241, v244, v247] (0, 0) _ rfl (HM.bx 4 rfl) Tryz.underlying26 rfl (by kernel_rfl)) rfl ?_
      exact ⟨_, _, _, ER, (MD HM).pick [8, 9, 10]⟩
     ·have c31b0 : decide (((rd_T60 x225002_1 0).f2) ≤ 1) = false := decide_eq_false c31
      clear c31
      first|rw [c31b0]|(simp only [i64_w, i32_w]; rw [c31b0])|skip
      replace H := GD H; obtain ⟨c57, H⟩ := H
      have LMc57 := Aside0.mk c57
      clear c57
      have H' := Aside0.mk H
      clear H
      go_wp2_with (first | ((with_reducible refine gS 37 rfl ?_); refine pS 6 37 2 [.int .i64 0] HM rfl rfl ?_; clear HM; intro w54 HM; obtain ⟨_,_,_,_,_,_,_,_,_,_⟩ := bk5 (HM.bx 5 rfl); obtain ⟨_,_,_,_,_,_⟩ := bk3 (HM.bx 6 rfl)) | ((with_reducible refine gN 41 rfl ?_); refine pL 41 k60 60 [(⟨(rd_T60 x225002_1 0).f0, (rd_T60 x225002_1 0).f1, 0⟩ : S60)] [.string ((rd_T60 x225002_1 0).f0), .string ((rd_T60 x225002_1 0).f1), .int .i64 0] (Reps.c3 (show Kd.M k60 _ _ _ (⟨(rd_T60 x225002_1 0).f0, (rd_T60 x225002_1 0).f1, 0⟩ : S60) [.string ((rd_T60 x225002_1 0).f0), .string ((rd_T60 x225002_1 0).f1), .int .i64 0] from (k60_mkM _ _ _ (⟨(rd_T60 x225002_1 0).f0, (rd_T60 x225002_1 0).f1, 0⟩ : S60))) (Reps.none _ _)) HM rfl ?_; clear HM; intro v59 w58 HM; obtain ⟨Xv59, kv59, rfl⟩ := HM.rdR 8 rfl) | ((with_reducible refine gate_builtin (b := .append) (xs := #[.tmp 39, .tmp 41]) rfl ?_); refine pA 1 (.tmp 39) (.tmp 41) 23 60 k60 u225003 x225003_1 [(⟨(rd_T60 x225002_1 0).f0, (rd_T60 x225002_1 0).f1, 0⟩ : S60)] Xv59 ([(⟨(rd_T60 x225002_1 0).f0, (rd_T60 x225002_1 0).f1, 0⟩ : S60)].length) kv59 HM rfl Tryz.underlying23 info60 rfl (HM.CR 8 rfl).2.2 (by have h_ := LMc57.out; simp only [List.length_singleton]; omega) ?_; clear HM; intro v250 w60 HM; obtain ⟨Xo61, ko61, rfl⟩ := HM.rdR 1 rfl) | ((with_reducible refine gS 43 rfl ?_); refine pS 5 43 3 [.slice Xo61 (x225003_1 ++ [(⟨(rd_T60 x225002_1 0).f0, (rd_T60 x225002_1 0).f1, 0⟩ : S60)]).length ko61] HM rfl rfl ?_; clear HM; intro w62 HM))
      go_roundg k1
      case measure => have := HK1.out; omega
      case rel => exact ⟨(x212000_1), (x212001_1), (y234), ((x225003_1 ++ [(⟨(rd_T60 x225002_1 0).f0, (rd_T60 x225002_1 0).f1, 0⟩ : S60)])), (.slice Xo28 y234.length ko28), (.slice Xo61 (x225003_1 ++ [(⟨(rd_T60 x225002_1 0).f0, (rd_T60 x225002_1 0).f1, 0⟩ : S60)]).length ko61), H', ⟨by have := HK1.out; omega⟩, (MD HM).pick [7, 1, 2, 3, 4, 5]⟩
    ·replace c18 : ¬ ((x225002_1.length : Int) > 0) := c18
     have c18b0 : decide (0 < (x225002_1.length : Int)) = false := decide_eq_false c18
     have c18b1 : decide (0 < x225002_1.length) = false := decide_eq_false (by omega)
     have c18b9 : decide (0 < x225002_1.length) = false := decide_eq_false (by omega)
     clear c18
     first|rw [c18b0]|rw [c18b9]|(simp only [i64_w, i32_w]; rw [c18b0])|skip
     simp only [Option.some.injEq, Prod.mk.injEq] at H
     obtain ⟨rfl, rfl, rfl, rfl, rfl, rfl, rfl⟩ := H
     obtain ⟨Xo63, ko63, rfl⟩ := HM.rdR 1 rfl
     go_wp2_with (first | ((with_reducible refine gS 2 rfl ?_); refine pS 4 2 0 [.int .i64 t213, .int .i64 t214, .slice Xo17 x225002_1.length ko17, .slice Xo63 x225003_1.length ko63, .slice Xo14 t221.length ko14] HM rfl rfl ?_; clear HM; intro w64 HM))
     refine bodyPost_ret (results_ctt rfl _ _ gb211 26 #[.int .i64 t213, .int .i64 t214, .slice Xo17 x225002_1.length ko17, .slice Xo63 x225003_1.length ko63, .slice Xo14 t221.length ko14] (0, 0) _ rfl (HM.bx 4 rfl) Tryz.underlying26 rfl (by kernel_rfl)) rfl ?_
     exact ⟨_, _, _, ER, (MD HM).pick [0, 1, 2]⟩
 ·subst c7
  simp only [Option.some.injEq, Prod.mk.injEq] at H
  obtain ⟨rfl, rfl, rfl, rfl, rfl, rfl, rfl⟩ := H
  go_wp2_with (first | ((with_reducible refine gS 2 rfl ?_); refine pS 1 2 0 [.int .i64 0, .int .i64 0, .slice none 0 0, .slice none 0 0, .slice none 0 0] HM rfl rfl ?_; clear HM; intro w65 HM; replace HM := HM.nl k60 60; replace HM := HM.nl k60 60; replace HM := HM.nl (Kd.int .i64) 3; replace HM := HM.toQ 4 rfl))
  refine bodyPost_ret (results_ctt rfl _ _ gb211 26 #[.int .i64 0, .int .i64 0, .slice none 0 0, .slice none 0 0, .slice none 0 0] (0, 0) _ rfl (HM.bx 1 rfl) Tryz.underlying26 rfl (by kernel_rfl)) rfl ?_
  exact ⟨_, _, _, ER, (MD HM).pick [2, 3, 4]⟩
def spec_EvictMain.l0 : Nat → Int → Int → List (S60) → List (S60) → List Int → Option (Int × Int × (List (S60)) × (List (S60)) × List Int × ByteArray × Bool)
 | 0, _, _, _, _, _ => none
 | k + 1, x270000, x270001, x270002, x270003, x270004 => if (x270003.length : Int) > 0 then (if 0 < (x270003.length : Int) then ((some (([] : List (S60)) : List (S60))).bind fun y272 => (if 1 ≤ (x270003.length : Int) then ((some (x270003.drop 1 : List (S60))).bind fun y275 => (if y272.length + y275.length < 3518437208883 then ((some (y272 ++ y275 : List (S60))).bind fun y279 => (if ((rd_T60 x270003 0).f2) = 0 then (some (x270000, x270001, x270002, y279, x270004, (rd_T60 x270003 0).f0, true)) else (if y279.length < 3518437208883 then (spec_EvictMain.l0 k x270000 x270001 x270002 (y279 ++ [(⟨(rd_T60 x270003 0).f0, (rd_T60 x270003 0).f1, wrap64 (((rd_T60 x270003 0).f2) - 1)⟩ : S60)]) x270004) else (none)))) else (none))) else (none))) else (none)) else (some (x270000, x270001, x270002, x270003, x270004, (⟨#[]⟩ : ByteArray), false))
def spec_EvictMain.f (k : Nat) (a0_0 : Int) (a0_1 : Int) (l0_2 : List (S60)) (l0_3 : List (S60)) (l0_4 : List Int) : Option (Int × Int × (List (S60)) × (List (S60)) × List Int × ByteArray × Bool) := (spec_ThreeOk.f k a0_0 a0_1 l0_2 l0_3 l0_4).bind fun t257 => (if t257 = true then ((spec_l10Copy.f a0_0 a0_1 l0_2 l0_3 l0_4).bind fun bt258 => (spec_EvictMain.l0 k bt258.1 bt258.2.1 bt258.2.2.1 bt258.2.2.2.1 bt258.2.2.2.2)) else (some (0, 0, ([] : List (S60)), ([] : List (S60)), ([] : List Int), (⟨#[]⟩ : ByteArray), false)))
def spec_EvictMain.T8 : Bool × List (List Nat × List Nat) := (true, [([], []), ([], []), ([1], [1]), ([0, 0], [0]), ([2, 3, 0, 1, 2, 3], [2]), ([4, 0, 1, 2, 3, 4], [])])
def spec_EvictMain.B8 : List Nat := [0, 0, 2, 1, 15, 31]
theorem spec_EvictMain.tab8 : rtab .any (opsOf Tryz.f88 8) = spec_EvictMain.T8 := by kernel_rfl
theorem spec_EvictMain.bits8 : waitsOk spec_EvictMain.T8.2 spec_EvictMain.B8 = true := by kernel_rfl
theorem spec_EvictMain.calls (k : Nat) (a0_0 : Int) (a0_1 : Int) (A0_2 : Option Addr) (c0_2 : Nat) (l0_2 : List (S60)) (A0_3 : Option Addr) (c0_3 : Nat) (l0_3 : List (S60)) (A0_4 : Option Addr) (c0_4 : Nat) (l0_4 : List Int) (r1 : Int) (r2 : Int) (r3 : List (S60)) (r4 : List (S60)) (r5 : List Int) (r6 : ByteArray) (r7 : Bool) (w : World) (hr0_2 : Kd.C k60 w A0_2 l0_2.length l0_2) (hc0_2 : l0_2.length ≤ c0_2) (hr0_3 : Kd.C k60 w A0_3 l0_3.length l0_3) (hc0_3 : l0_3.length ≤ c0_3) (hr0_4 : Kd.C (Kd.int .i64) w A0_4 l0_4.length l0_4) (hc0_4 : l0_4.length ≤ c0_4) (h : spec_EvictMain.f k a0_0 a0_1 l0_2 l0_3 l0_4 = some (r1, r2, r3, r4, r5, r6, r7)) :
  Calls Tryz.prog 88 #[.agg #[.int .i64 a0_0, .int .i64 a0_1, .slice A0_2 l0_2.length c0_2, .slice A0_3 l0_3.length c0_3, .slice A0_4 l0_4.length c0_4]] w fun e w' => ∃ v2_ v3_ v4_ : Value, e = .returned (.tuple #[.agg #[.int .i64 r1, .int .i64 r2, v2_, v3_, v4_], .string r6, .bool r7]) ∧ Mem w [] w' [rowR k60 60 v2_ r3, rowR k60 60 v3_ r4, rowR (Kd.int .i64) 3 v4_ r5] := by
 have hu26 := Tryz.underlying26
 have hu60 := Tryz.underlying60
 have HR0_2 := Aside0.mk hr0_2
 have HC0_2 := Aside0.mk hc0_2
 clear hr0_2 hc0_2
 have HR0_3 := Aside0.mk hr0_3
 have HC0_3 := Aside0.mk hc0_3
 clear hr0_3 hc0_3
 have HR0_4 := Aside0.mk hr0_4
 have HC0_4 := Aside0.mk hc0_4
 clear hr0_4 hc0_4
 have HM := Mem.nil w
 have H := h
 clear h
 unfold spec_EvictMain.f at H
 go_enter Tryz.func88, Tryz.ntmps88
 replace H := BN H; obtain ⟨t257, A5, H⟩ := H
 go_upto_if 9 with (first | ((with_reducible refine gN 1 rfl ?_); refine pB 1 26 [.int .i64 a0_0, .int .i64 a0_1, .slice A0_2 l0_2.length c0_2, .slice A0_3 l0_3.length c0_3, .slice A0_4 l0_4.length c0_4] HM rfl ?_; clear HM; intro gb255 w2 HM) | ((with_reducible refine gN 2 rfl ?_); refine pB 2 26 [.int .i64 0, .int .i64 0, .slice none 0 0, .slice none 0 0, .slice none 0 0] HM rfl ?_; clear HM; intro gb256 w3 HM; obtain ⟨_,_,_,_,_,_,_,_,_,_⟩ := bk5 (HM.bx 0 rfl)) | ((with_reducible refine gC 47 rfl ?_); refine pC (some 8) rfl #[.agg #[.int .i64 a0_0, .int .i64 a0_1, .slice A0_2 l0_2.length c0_2, .slice A0_3 l0_3.length c0_3, .slice A0_4 l0_4.length c0_4]] rfl Tryz.func47 (spec_ThreeOk.calls k a0_0 a0_1 _ _ l0_2 _ _ l0_3 _ _ l0_4 t257 _ (HM.came HR0_2.out) HC0_2.out (HM.came HR0_3.out) HC0_3.out (HM.came HR0_4.out) HC0_4.out A5.out) ?_; rintro e w6 ⟨rfl, hR⟩; refine ⟨_, rfl, ?_⟩; replace HM := HM.call hR; clear hR))
 replace HM := nzM HM
 replace H := IB H
 rcases H with ⟨c7, H⟩ | ⟨c7, H⟩
 ·subst c7
  replace H := BN H; obtain ⟨⟨t258, t259, t260, t263, t266⟩, A9, H⟩ := H
  have H' := Aside0.mk H
  clear H
  obtain ⟨_,_,_,_,_,_,_,_,_,_⟩ := bk5 (HM.bx 0 rfl)
  go_wp2_with (first | ((with_reducible refine gC 74 rfl ?_); refine pC (some 12) rfl #[.agg #[.int .i64 a0_0, .int .i64 a0_1, .slice A0_2 l0_2.length c0_2, .slice A0_3 l0_3.length c0_3, .slice A0_4 l0_4.length c0_4]] rfl Tryz.func74 (spec_l10Copy.calls a0_0 a0_1 _ _ l0_2 _ _ l0_3 _ _ l0_4 t258 t259 t260 t263 t266 _ (HM.came HR0_2.out) HC0_2.out (HM.came HR0_3.out) HC0_3.out (HM.came HR0_4.out) HC0_4.out A9.out) ?_; rintro e w10 ⟨v261, v264, v267, rfl, hR⟩; refine ⟨_, rfl, ?_⟩; replace HM := HM.call hR; clear hR) | ((with_reducible refine gN 5 rfl ?_); refine pB 5 26 [.int .i64 0, .int .i64 0, .slice none 0 0, .slice none 0 0, .slice none 0 0] HM rfl ?_; clear HM; intro gb269 w11 HM; obtain ⟨Xo12, ko12, rfl⟩ := HM.rdR 2 rfl; obtain ⟨Xo13, ko13, rfl⟩ := HM.rdR 3 rfl; obtain ⟨Xo14, ko14, rfl⟩ := HM.rdR 4 rfl) | ((with_reducible refine gS 5 rfl ?_); refine pS 5 5 0 [.int .i64 t258, .int .i64 t259, .slice Xo12 t260.length ko12, .slice Xo13 t263.length ko13, .slice Xo14 t266.length ko14] HM rfl rfl ?_; clear HM; intro w15 HM))
  go_loopg [] k (fun kq w' => ∃ (x257000_1 : Int) (x257001_1 : Int) (x270003_1 : List (S60)) (u270003 : Value), Aside0 (spec_EvictMain.l0 kq t258 t259 t260 x270003_1 t266 = some (r1, r2, r3, r4, r5, r6, r7)) ∧ Aside0 (kq ≤ k) ∧ Mem w [] w' [rowR k60 60 (.slice Xo12 t260.length ko12) t260, rowR k60 60 u270003 x270003_1, rowR (Kd.int .i64) 3 (.slice Xo14 t266.length ko14) t266, box 26 gb255 [.int .i64 a0_0, .int .i64 a0_1, .slice A0_2 l0_2.length c0_2, .slice A0_3 l0_3.length c0_3, .slice A0_4 l0_4.length c0_4], box 26 gb256 [.int .i64 x257000_1, .int .i64 x257001_1, .slice none 0 0, .slice none 0 0, .slice none 0 0], box 26 gb269 [.int .i64 t258, .int .i64 t259, (.slice Xo12 t260.length ko12), u270003, (.slice Xo14 t266.length ko14)]])
  case atStart => exact ⟨(0), (0), (t263), (.slice Xo13 t263.length ko13), H', ⟨Nat.le_refl _⟩, (MD HM).pick [2, 3, 4, 0, 1, 5]⟩
  case round =>
   clear H' HM
   obtain ⟨x257000_1, x257001_1, x270003_1, u270003, HA, HK1, HM⟩ := hrel
   cases gk with
   | zero => exact absurd HA.out (by simp [spec_EvictMain.l0])
   | succ k1 =>
    have H := HA.out
    clear HA
    simp only [spec_EvictMain.l0] at H
    obtain ⟨_,_,_,_,_,_,_,_,_,_⟩ := bk5 (HM.bx 5 rfl)
    obtain ⟨Xo17, ko17, rfl⟩ := HM.rdR 1 rfl
    go_upto_if 16 with (fail)
    replace H := IT H; rcases H with ⟨c18, H⟩ | ⟨c18, H⟩
    ·replace c18 : (x270003_1.length : Int) > 0 := c18
     have c18b0 : decide (0 < (x270003_1.length : Int)) = true := decide_eq_true c18
     have c18b1 : decide (0 < x270003_1.length) = true := decide_eq_true (by omega)
     have c18b9 : decide (0 < x270003_1.length) = true := decide_eq_true (by omega)
     clear c18
     first|rw [c18b0]|rw [c18b9]|(simp only [i64_w, i32_w]; rw [c18b0])|skip
     replace H := GD H; obtain ⟨c19, H⟩ := H
     replace c19 : 0 < (x270003_1.length : Int) := c19
     have c19b0 : decide (0 < (x270003_1.length : Int)) = true := decide_eq_true c19
     have c19b1 : decide (0 < x270003_1.length) = true := decide_eq_true (by omega)
     have c19b9 : decide (0 < x270003_1.length) = true := decide_eq_true (by omega)
     clear c19
     replace H := BLt H; obtain ⟨y272, Ny272, H⟩ := H
     replace Ny272 := Aside0.mk Ny272
     replace H := GD H; obtain ⟨c24, H⟩ := H
     have c24b0 := eq_true c24
     have c24b1 : decide (1 ≤ (x270003_1.length : Int)) = true := decide_eq_true c24
     clear c24
     replace H := BLt H; obtain ⟨_, rfl, H⟩ := H
     replace H := GD H; obtain ⟨c26, H⟩ := H
     have LMc26 := Aside0.mk c26
     clear c26
     replace H := BLt H; obtain ⟨y279, Ny279, H⟩ := H
     replace Ny279 := Aside0.mk Ny279
     have p270 : 0 ≤ (0 : Int) := (by omega)
     have q270 : (0 : Int) < (x270003_1.length : Int) := of_decide_eq_true AS
     obtain ⟨ad270, e270, hx270_0, hx270_1, hx270_2⟩ := at_T60 (HM.CR 1 rfl).2.2 0 p270 q270
     cases e270
     have qi270 : (0 < x270003_1.length) = True := eq_true (by omega)
     (try rw [show ((0 : Int)).toNat = 0 from rfl] at hx270_0)
     (try rw [show 0 * 3 = 0 from rfl] at hx270_0)
     (try rw [Addr.add_zero'] at hx270_0)
     (try rw [show ((0 : Int)).toNat = 0 from rfl] at hx270_1)
     (try rw [show 0 * 3 = 0 from rfl] at hx270_1)
     (try rw [Addr.add_zero'] at hx270_1)
     (try rw [show ((0 : Int)).toNat = 0 from rfl] at hx270_2)
     (try rw [show 0 * 3 = 0 from rfl] at hx270_2)
     (try rw [Addr.add_zero'] at hx270_2)
     replace p270 := eq_true p270
     replace q270 := eq_true q270
     go_upto_if 29 with (first | ((with_reducible refine gN 6 rfl ?_); refine pB 6 60 [.string (⟨#[]⟩ : ByteArray), .string (⟨#[]⟩ : ByteArray), .int .i64 0] HM rfl ?_; clear HM; intro gb271 w20 HM) | ((with_reducible refine gS 6 rfl ?_); refine pS 6 6 0 [.string ((rd_T60 x270003_1 0).f0), .string ((rd_T60 x270003_1 0).f1), .int .i64 ((rd_T60 x270003_1 0).f2)] HM rfl rfl ?_; clear HM; intro w21 HM) | ((with_reducible refine gN 21 rfl ?_); refine pL 21 k60 60 ([] : List (S60)) [] (Reps.none _ _) HM rfl ?_; clear HM; intro v273 w22 HM; replace HM := HM.nm 7 rfl Ny272.out; obtain ⟨_,_,_,_,_,_,_,_,_,_⟩ := bk5 (HM.bx 5 rfl)) | ((with_reducible refine gate_sl (t := 23) rfl ?_); refine pRdf 23 60 k60 _ _ 1 x270003_1 (some ad270) ko17 rfl Tryz.underlying23 info60 (HM.CR 1 rfl).2.1 (by omega) (of_decide_eq_true AS) ?_; intro Yx25 bx25 hYx25 hbx25; have HYx25 := Aside0.mk hYx25; have HBx25 := Aside0.mk hbx25; clear hYx25 hbx25) | ((with_reducible refine gate_builtin (b := .append) (xs := #[.tmp 21, .tmp 24]) rfl ?_); refine pA 7 (.tmp 21) (.tmp 24) 23 60 k60 v273 y272 (x270003_1.drop 1) Yx25 ((x270003_1.drop 1).length) bx25 HM rfl Tryz.underlying23 info60 rfl (HYx25.out _ (HM.CR 1 rfl).2.2) (by have h_ := LMc26.out; omega) ?_; clear HM; intro v280 w27 HM; replace HM := HM.nm 7 rfl Ny279.out; obtain ⟨Xo28, ko28, rfl⟩ := HM.rdR 7 rfl) | ((with_reducible refine gS 26 rfl ?_); refine pS 5 26 3 [.slice Xo28 y279.length ko28] HM rfl rfl ?_; clear HM; intro w29 HM; obtain ⟨_,_,_,_,_,_⟩ := bk3 (HM.bx 6 rfl)))
     replace HM := nzM HM
     replace H := IT H; rcases H with ⟨c31, H⟩ | ⟨c31, H⟩
     ·have c31b0 : (((rd_T60 x270003_1 0).f2) == 0) = true := beq_iff_eq.mpr c31
      have c31b1 : (((rd_T60 x270003_1 0).f2) != 0) = false := bne_eq_false_iff_eq.mpr c31
      clear c31
      first|rw [c31b0]|(simp only [i64_w, i32_w]; rw [c31b0])|skip
      try go_wp2
      refine RGN 6 [0, 1, 2, 3, 4, 5] (fun a0 b a w' => a = putSel a0 b [(0, 30, .agg #[.int .i64 t258, .int .i64 t259, .slice Xo12 t260.length ko12, .slice Xo28 y279.length ko28, .slice Xo14 t266.length ko14]), (1, 31, .pointer (some ⟨gb271, 0, none⟩)), (2, 32, .string ((rd_T60 x270003_1 0).f0)), (4, 3, .string ((rd_T60 x270003_1 0).f0)), (5, 4, .bool true)] ∧ Mem w [] w' [rowR k60 60 (.slice Xo12 t260.length ko12) t260, rowR k60 60 (.slice (some ad270) x270003_1.length ko17) x270003_1, rowR (Kd.int .i64) 3 (.slice Xo14 t266.length ko14) t266, box 26 gb255 [.int .i64 a0_0, .int .i64 a0_1, .slice A0_2 l0_2.length c0_2, .slice A0_3 l0_3.length c0_3, .slice A0_4 l0_4.length c0_4], sel (b 3) (box 26 gb256 [.int .i64 t258, .int .i64 t259, .slice Xo12 t260.length ko12, .slice Xo28 y279.length ko28, .slice Xo14 t266.length ko14]) (box 26 gb256 [.int .i64 x257000_1, .int .i64 x257001_1, .slice none 0 0, .slice none 0 0, .slice none 0 0]), box 26 gb269 [.int .i64 t258, .int .i64 t259, .slice Xo12 t260.length ko12, .slice Xo28 y279.length ko28, .slice Xo14 t266.length ko14], box 60 gb271 [.string ((rd_T60 x270003_1 0).f0), .string ((rd_T60 x270003_1 0).f1), .int .i64 ((rd_T60 x270003_1 0).f2)], rowR k60 60 (.slice Xo28 y279.length ko28) y279]) spec_EvictMain.tab8 spec_EvictMain.bits8 ?_ ?_ ?_
      ·exact ⟨PS0' rfl _, (HM.drew).pick [0, 1, 2, 3, 4, 5, 6, 7]⟩
      ·clear HM
       refine SY ?_ ?_
       ·intro b a w ha HM hb hon hoff K hK
        obtain ⟨_,_,_,_,_,_,_,_,_,_⟩ := bk5 (HM.bx 5 rfl)
        have e5 := PG ha 5
        exact VL (.agg #[.int .i64 t258, .int .i64 t259, .slice Xo12 t260.length ko12, .slice Xo28 y279.length ko28, .slice Xo14 t266.length ko14]) (hK.out _ _ ⟨PUT ha 0 hb, HM⟩)
       refine SY ?_ ?_
       ·intro b a w ha HM hb hon hoff K hK
        have e6 := PG ha 6
        exact VL (.pointer (some ⟨gb271, 0, none⟩)) (hK.out _ _ ⟨PUT ha 1 hb, HM⟩)
       refine SY ?_ ?_
       ·intro b a w ha HM hb hon hoff K hK
        obtain ⟨_,_,_,_,_,_⟩ := bk3 (HM.bx 6 rfl)
        have e31 := PE ha 1 hon
        exact VL (.string ((rd_T60 x270003_1 0).f0)) (hK.out _ _ ⟨PUT ha 2 hb, HM⟩)
       refine SY ?_ ?_
       ·intro b a w ha HM hb hon hoff K hK
        replace HM := HM.sF 4 rfl hb
        have e2 := PG ha 2
        have e30 := PE ha 0 hon
        refine ST (eS 4 2 0 [.int .i64 t258, .int .i64 t259, .slice Xo12 t260.length ko12, .slice Xo28 y279.length ko28, .slice Xo14 t266.length ko14] HM rfl rfl ?_ (hp := (eval_of e2)) (hx := (by rw [eval_of e30]; rfl)))
        clear HM
        intro w37 HM
        exact hK.out _ _ ⟨PUS ha, (HM).pick [0, 1, 2, 3, 4, 5, 6, 7]⟩
       refine SY ?_ ?_
       ·intro b a w ha HM hb hon hoff K hK
        have e32 := PE ha 2 hon
        exact VL (.string ((rd_T60 x270003_1 0).f0)) (hK.out _ _ ⟨PUT ha 3 hb, HM⟩)
       refine SY ?_ ?_
       ·intro b a w ha HM hb hon hoff K hK
        exact VL (.bool true) (hK.out _ _ ⟨PUT ha 4 hb, HM⟩)
       exact steps_nil
      rintro _ w38 ⟨rfl, HM⟩
      replace HM := HM.sT 4 rfl rfl
      simp only [putSel, if_true, Act.put, List.setIfInBounds_toArray, List.set_cons_zero, List.set_cons_succ, gt_iff_lt, ge_iff_le]
      simp only [Option.some.injEq, Prod.mk.injEq] at H
      obtain ⟨rfl, rfl, rfl, rfl, rfl, rfl, rfl⟩ := H
      go_wp2
      refine bodyPost_ret (results_ctt rfl _ _ gb256 26 #[.int .i64 t258, .int .i64 t259, .slice Xo12 t260.length ko12, .slice Xo28 y279.length ko28, .slice Xo14 t266.length ko14] (0, 0) _ rfl (HM.bx 4 rfl) Tryz.underlying26 rfl (by kernel_rfl)) rfl ?_
      exact ⟨_, _, _, ER, (MD HM).pick [0, 7, 2]⟩
     ·have c31b0 : (((rd_T60 x270003_1 0).f2) == 0) = false := beq_eq_false_iff_ne.mpr c31
      have c31b1 : (((rd_T60 x270003_1 0).f2) != 0) = true := bne_iff_ne.mpr c31
      first|rw [c31b0]|(simp only [i64_w, i32_w]; rw [c31b0])|skip
      replace H := GD H; obtain ⟨c42, H⟩ := H
      have LMc42 := Aside0.mk c42
      clear c42
      have H' := Aside0.mk H
      clear H
      go_wp2_with (first | ((with_reducible refine gS 36 rfl ?_); refine pS 6 36 2 [.int .i64 (wrap64 (((rd_T60 x270003_1 0).f2) - 1))] HM rfl rfl ?_; clear HM; intro w39 HM; obtain ⟨_,_,_,_,_,_,_,_,_,_⟩ := bk5 (HM.bx 5 rfl); obtain ⟨_,_,_,_,_,_⟩ := bk3 (HM.bx 6 rfl)) | ((with_reducible refine gN 40 rfl ?_); refine pL 40 k60 60 [(⟨(rd_T60 x270003_1 0).f0, (rd_T60 x270003_1 0).f1, wrap64 (((rd_T60 x270003_1 0).f2) - 1)⟩ : S60)] [.string ((rd_T60 x270003_1 0).f0), .string ((rd_T60 x270003_1 0).f1), .int .i64 (wrap64 (((rd_T60 x270003_1 0).f2) - 1))] (Reps.c3 (show Kd.M k60 _ _ _ (⟨(rd_T60 x270003_1 0).f0, (rd_T60 x270003_1 0).f1, wrap64 (((rd_T60 x270003_1 0).f2) - 1)⟩ : S60) [.string ((rd_T60 x270003_1 0).f0), .string ((rd_T60 x270003_1 0).f1), .int .i64 (wrap64 (((rd_T60 x270003_1 0).f2) - 1))] from (k60_mkM _ _ _ (⟨(rd_T60 x270003_1 0).f0, (rd_T60 x270003_1 0).f1, wrap64 (((rd_T60 x270003_1 0).f2) - 1)⟩ : S60))) (Reps.none _ _)) HM rfl ?_; clear HM; intro v44 w43 HM; obtain ⟨Xv44, kv44, rfl⟩ := HM.rdR 8 rfl) | ((with_reducible refine gate_builtin (b := .append) (xs := #[.tmp 38, .tmp 40]) rfl ?_); refine pA 7 (.tmp 38) (.tmp 40) 23 60 k60 (.slice Xo28 y279.length ko28) y279 [(⟨(rd_T60 x270003_1 0).f0, (rd_T60 x270003_1 0).f1, wrap64 (((rd_T60 x270003_1 0).f2) - 1)⟩ : S60)] Xv44 ([(⟨(rd_T60 x270003_1 0).f0, (rd_T60 x270003_1 0).f1, wrap64 (((rd_T60 x270003_1 0).f2) - 1)⟩ : S60)].length) kv44 HM rfl Tryz.underlying23 info60 rfl (HM.CR 8 rfl).2.2 (by have h_ := LMc42.out; simp only [List.length_singleton]; omega) ?_; clear HM; intro v283 w45 HM; obtain ⟨Xo46, ko46, rfl⟩ := HM.rdR 7 rfl) | ((with_reducible refine gS 42 rfl ?_); refine pS 5 42 3 [.slice Xo46 (y279 ++ [(⟨(rd_T60 x270003_1 0).f0, (rd_T60 x270003_1 0).f1, wrap64 (((rd_T60 x270003_1 0).f2) - 1)⟩ : S60)]).length ko46] HM rfl rfl ?_; clear HM; intro w47 HM))
      go_roundg k1
      case measure => have := HK1.out; omega
      case rel => exact ⟨(x257000_1), (x257001_1), ((y279 ++ [(⟨(rd_T60 x270003_1 0).f0, (rd_T60 x270003_1 0).f1, wrap64 (((rd_T60 x270003_1 0).f2) - 1)⟩ : S60)])), (.slice Xo46 (y279 ++ [(⟨(rd_T60 x270003_1 0).f0, (rd_T60 x270003_1 0).f1, wrap64 (((rd_T60 x270003_1 0).f2) - 1)⟩ : S60)]).length ko46), H', ⟨by have := HK1.out; omega⟩, (MD HM).pick [0, 7, 2, 3, 4, 5]⟩
    ·replace c18 : ¬ ((x270003_1.length : Int) > 0) := c18
     have c18b0 : decide (0 < (x270003_1.length : Int)) = false := decide_eq_false c18
     have c18b1 : decide (0 < x270003_1.length) = false := decide_eq_false (by omega)
     have c18b9 : decide (0 < x270003_1.length) = false := decide_eq_false (by omega)
     clear c18
     first|rw [c18b0]|rw [c18b9]|(simp only [i64_w, i32_w]; rw [c18b0])|skip
     simp only [Option.some.injEq, Prod.mk.injEq] at H
     obtain ⟨rfl, rfl, rfl, rfl, rfl, rfl, rfl⟩ := H
     go_wp2_with (first | ((with_reducible refine gS 2 rfl ?_); refine pS 4 2 0 [.int .i64 t258, .int .i64 t259, .slice Xo12 t260.length ko12, .slice Xo17 x270003_1.length ko17, .slice Xo14 t266.length ko14] HM rfl rfl ?_; clear HM; intro w48 HM))
     refine bodyPost_ret (results_ctt rfl _ _ gb256 26 #[.int .i64 t258, .int .i64 t259, .slice Xo12 t260.length ko12, .slice Xo17 x270003_1.length ko17, .slice Xo14 t266.length ko14] (0, 0) _ rfl (HM.bx 4 rfl) Tryz.underlying26 rfl (by kernel_rfl)) rfl ?_
     exact ⟨_, _, _, ER, (MD HM).pick [0, 1, 2]⟩
 ·subst c7
  simp only [Option.some.injEq, Prod.mk.injEq] at H
  obtain ⟨rfl, rfl, rfl, rfl, rfl, rfl, rfl⟩ := H
  go_wp2_with (first | ((with_reducible refine gS 2 rfl ?_); refine pS 1 2 0 [.int .i64 0, .int .i64 0, .slice none 0 0, .slice none 0 0, .slice none 0 0] HM rfl rfl ?_; clear HM; intro w49 HM; replace HM := HM.nl k60 60; replace HM := HM.nl k60 60; replace HM := HM.nl (Kd.int .i64) 3))
  refine bodyPost_ret (results_ctt rfl _ _ gb256 26 #[.int .i64 0, .int .i64 0, .slice none 0 0, .slice none 0 0, .slice none 0 0] (0, 0) _ rfl (HM.bx 1 rfl) Tryz.underlying26 rfl (by kernel_rfl)) rfl ?_
  exact ⟨_, _, _, ER, (MD HM).pick [2, 3, 4]⟩
def spec_Evict.j0 : Nat → Bool → Int → Int → List (S60) → List (S60) → List Int → Option (Int × Int × (List (S60)) × (List (S60)) × List Int × ByteArray × Bool)
 | 0, _, _, _, _, _, _ => none
 | k + 1, x23, x289000, x289001, x289002, x289003, x289004 => if x23 = true then ((spec_EvictSmall.f k x289000 x289001 x289002 x289003 x289004).bind fun bt291 => (if bt291.2.2.2.2.2.2 = true then (some (bt291.1, bt291.2.1, bt291.2.2.1, bt291.2.2.2.1, bt291.2.2.2.2.1, bt291.2.2.2.2.2.1, true)) else ((spec_EvictMain.f k bt291.1 bt291.2.1 bt291.2.2.1 bt291.2.2.2.1 bt291.2.2.2.2.1).bind fun bt305 => (some (bt305.1, bt305.2.1, bt305.2.2.1, bt305.2.2.2.1, bt305.2.2.2.2.1, bt305.2.2.2.2.2.1, bt305.2.2.2.2.2.2))))) else ((spec_EvictMain.f k x289000 x289001 x289002 x289003 x289004).bind fun bt318 => (some (bt318.1, bt318.2.1, bt318.2.2.1, bt318.2.2.2.1, bt318.2.2.2.2.1, bt318.2.2.2.2.2.1, bt318.2.2.2.2.2.2)))
def spec_Evict.f (k : Nat) (a0_0 : Int) (a0_1 : Int) (l0_2 : List (S60)) (l0_3 : List (S60)) (l0_4 : List Int) : Option (Int × Int × (List (S60)) × (List (S60)) × List Int × ByteArray × Bool) := (spec_ThreeOk.f k a0_0 a0_1 l0_2 l0_3 l0_4).bind fun t290 => (if t290 = true then (if (l0_2.length : Int) ≥ a0_1 then (spec_Evict.j0 k true a0_0 a0_1 l0_2 l0_3 l0_4) else (spec_Evict.j0 k ((l0_3.length : Int) == 0) a0_0 a0_1 l0_2 l0_3 l0_4)) else (some (0, 0, ([] : List (S60)), ([] : List (S60)), ([] : List Int), (⟨#[]⟩ : ByteArray), false)))
theorem spec_Evict.calls (k : Nat) (a0_0 : Int) (a0_1 : Int) (A0_2 : Option Addr) (c0_2 : Nat) (l0_2 : List (S60)) (A0_3 : Option Addr) (c0_3 : Nat) (l0_3 : List (S60)) (A0_4 : Option Addr) (c0_4 : Nat) (l0_4 : List Int) (r1 : Int) (r2 : Int) (r3 : List (S60)) (r4 : List (S60)) (r5 : List Int) (r6 : ByteArray) (r7 : Bool) (w : World) (hr0_2 : Kd.C k60 w A0_2 l0_2.length l0_2) (hc0_2 : l0_2.length ≤ c0_2) (hr0_3 : Kd.C k60 w A0_3 l0_3.length l0_3) (hc0_3 : l0_3.length ≤ c0_3) (hr0_4 : Kd.C (Kd.int .i64) w A0_4 l0_4.length l0_4) (hc0_4 : l0_4.length ≤ c0_4) (h : spec_Evict.f k a0_0 a0_1 l0_2 l0_3 l0_4 = some (r1, r2, r3, r4, r5, r6, r7)) :
  Calls Tryz.prog 75 #[.agg #[.int .i64 a0_0, .int .i64 a0_1, .slice A0_2 l0_2.length c0_2, .slice A0_3 l0_3.length c0_3, .slice A0_4 l0_4.length c0_4]] w fun e w' => ∃ v2_ v3_ v4_ : Value, e = .returned (.tuple #[.agg #[.int .i64 r1, .int .i64 r2, v2_, v3_, v4_], .string r6, .bool r7]) ∧ Mem w [] w' [rowR k60 60 v2_ r3, rowR k60 60 v3_ r4, row (Kd.int .i64) 3 v4_ r5] := by
 have hu26 := Tryz.underlying26
 have HR0_2 := Aside0.mk hr0_2
 have HC0_2 := Aside0.mk hc0_2
 clear hr0_2 hc0_2
 have HR0_3 := Aside0.mk hr0_3
 have HC0_3 := Aside0.mk hc0_3
 clear hr0_3 hc0_3
 have HR0_4 := Aside0.mk hr0_4
 have HC0_4 := Aside0.mk hc0_4
 clear hr0_4 hc0_4
 have HM := Mem.nil w
 have H := h
 clear h
 unfold spec_Evict.f at H
 go_enter Tryz.func75, Tryz.ntmps75
 replace H := BN H; obtain ⟨t290, A5, H⟩ := H
 go_upto_if 10 with (first | ((with_reducible refine gN 1 rfl ?_); refine pB 1 26 [.int .i64 a0_0, .int .i64 a0_1, .slice A0_2 l0_2.length c0_2, .slice A0_3 l0_3.length c0_3, .slice A0_4 l0_4.length c0_4] HM rfl ?_; clear HM; intro gb288 w2 HM) | ((with_reducible refine gN 2 rfl ?_); refine pB 2 26 [.int .i64 0, .int .i64 0, .slice none 0 0, .slice none 0 0, .slice none 0 0] HM rfl ?_; clear HM; intro gb289 w3 HM; obtain ⟨_,_,_,_,_,_,_,_,_,_⟩ := bk5 (HM.bx 0 rfl)) | ((with_reducible refine gC 47 rfl ?_); refine pC (some 9) rfl #[.agg #[.int .i64 a0_0, .int .i64 a0_1, .slice A0_2 l0_2.length c0_2, .slice A0_3 l0_3.length c0_3, .slice A0_4 l0_4.length c0_4]] rfl Tryz.func47 (spec_ThreeOk.calls k a0_0 a0_1 _ _ l0_2 _ _ l0_3 _ _ l0_4 t290 _ (HM.came HR0_2.out) HC0_2.out (HM.came HR0_3.out) HC0_3.out (HM.came HR0_4.out) HC0_4.out A5.out) ?_; rintro e w6 ⟨rfl, hR⟩; refine ⟨_, rfl, ?_⟩; replace HM := HM.call hR; clear hR))
 replace HM := nzM HM
 replace H := IB H
 rcases H with ⟨c7, H⟩ | ⟨c7, H⟩
 ·subst c7
  have HC8 := Aside0.mk H
  clear H
  go_upto_region 3 with (fail)
  go_cut [23] (fun v23 wc => ∃ (kq : Nat) (x23_7 : Bool), v23 = .bool x23_7 ∧ Aside0 (spec_Evict.j0 kq x23_7 a0_0 a0_1 l0_2 l0_3 l0_4 = some (r1, r2, r3, r4, r5, r6, r7)) ∧ Aside0 (kq ≤ k) ∧ Mem w [] wc [box 26 gb288 [.int .i64 a0_0, .int .i64 a0_1, .slice A0_2 l0_2.length c0_2, .slice A0_3 l0_3.length c0_3, .slice A0_4 l0_4.length c0_4], box 26 gb289 [.int .i64 0, .int .i64 0, .slice none 0 0, .slice none 0 0, .slice none 0 0]])
  case first =>
   have H := HC8.out
   clear HC8
   replace H := IT H; rcases H with ⟨c10, H⟩ | ⟨c10, H⟩
   ·have c10b0 : decide (a0_1 ≤ (l0_2.length : Int)) = true := decide_eq_true c10
    clear c10
    have H' := Aside0.mk H
    clear H
    obtain ⟨_,_,_,_,_,_,_,_,_,_⟩ := bk5 (HM.bx 0 rfl)
    go_wp2
    go_meet
    case rel => exact ⟨_, (true), RS, H', ⟨by first | omega | exact Nat.le_refl _⟩, (MD HM).pick [0, 1]⟩
   ·have c10b0 : decide (a0_1 ≤ (l0_2.length : Int)) = false := decide_eq_false c10
    clear c10
    have H' := Aside0.mk H
    clear H
    obtain ⟨_,_,_,_,_,_,_,_,_,_⟩ := bk5 (HM.bx 0 rfl)
    go_wp2
    go_meet
    case rel => exact ⟨_, (((l0_3.length : Int) == 0)), RS, H', ⟨by first | omega | exact Nat.le_refl _⟩, (MD HM).pick [0, 1]⟩
  case rest =>
   clear HC8 HM
   obtain ⟨kq, x23_7, rfl, HA, HJ7, HM⟩ := hcut
   cases kq with
   | zero => exact absurd HA.out (by simp [spec_Evict.j0])
   | succ kj7 =>
    have H := HA.out
    clear HA
    simp only [spec_Evict.j0] at H
    go_upto_if 23 with (fail)
    replace H := IB H
    rcases H with ⟨c11, H⟩ | ⟨c11, H⟩
    ·subst c11
     replace H := BN H; obtain ⟨⟨t291, t292, t293, t296, t299, t302, t303⟩, A13, H⟩ := H
     obtain ⟨_,_,_,_,_,_,_,_,_,_⟩ := bk5 (HM.bx 0 rfl)
     go_upto_if 30 with (first | ((with_reducible refine gC 87 rfl ?_); refine pC (some 26) rfl #[.agg #[.int .i64 a0_0, .int .i64 a0_1, .slice A0_2 l0_2.length c0_2, .slice A0_3 l0_3.length c0_3, .slice A0_4 l0_4.length c0_4]] rfl Tryz.func87 (spec_EvictSmall.calls kj7 a0_0 a0_1 _ _ l0_2 _ _ l0_3 _ _ l0_4 t291 t292 t293 t296 t299 t302 t303 _ (HM.came HR0_2.out) HC0_2.out (HM.came HR0_3.out) HC0_3.out (HM.came HR0_4.out) HC0_4.out A13.out) ?_; rintro e w14 ⟨v294, v297, v300, rfl, hR⟩; refine ⟨_, rfl, ?_⟩; replace HM := HM.call hR; clear hR) | ((with_reducible refine gN 5 rfl ?_); refine pB 5 26 [.int .i64 0, .int .i64 0, .slice none 0 0, .slice none 0 0, .slice none 0 0] HM rfl ?_; clear HM; intro gb304 w15 HM; obtain ⟨Xo16, ko16, rfl⟩ := HM.rdR 2 rfl; obtain ⟨Xo17, ko17, rfl⟩ := HM.rdR 3 rfl; obtain ⟨Xo18, ko18, rfl⟩ := HM.rd 4 rfl) | ((with_reducible refine gS 5 rfl ?_); refine pS 5 5 0 [.int .i64 t291, .int .i64 t292, .slice Xo16 t293.length ko16, .slice Xo17 t296.length ko17, .slice Xo18 t299.length ko18] HM rfl rfl ?_; clear HM; intro w19 HM))
     replace HM := nzM HM
     replace H := IB H
     rcases H with ⟨c20, H⟩ | ⟨c20, H⟩
     ·subst c20
      simp only [Option.some.injEq, Prod.mk.injEq] at H
      obtain ⟨rfl, rfl, rfl, rfl, rfl, rfl, rfl⟩ := H
      obtain ⟨_,_,_,_,_,_,_,_,_,_⟩ := bk5 (HM.bx 5 rfl)
      go_wp2_with (first | ((with_reducible refine gS 2 rfl ?_); refine pS 1 2 0 [.int .i64 t291, .int .i64 t292, .slice Xo16 t293.length ko16, .slice Xo17 t296.length ko17, .slice Xo18 t299.length ko18] HM rfl rfl ?_; clear HM; intro w22 HM))
      refine bodyPost_ret (results_ctt rfl _ _ gb289 26 #[.int .i64 t291, .int .i64 t292, .slice Xo16 t293.length ko16, .slice Xo17 t296.length ko17, .slice Xo18 t299.length ko18] (0, 0) _ rfl (HM.bx 1 rfl) Tryz.underlying26 rfl (by kernel_rfl)) rfl ?_
      exact ⟨_, _, _, ER, (MD HM).pick [2, 3, 4]⟩
     ·subst c20
      replace H := BN H; obtain ⟨⟨t305, t306, t307, t310, t313, t316, t317⟩, A24, H⟩ := H
      simp only [Option.some.injEq, Prod.mk.injEq] at H
      obtain ⟨rfl, rfl, rfl, rfl, rfl, rfl, rfl⟩ := H
      obtain ⟨_,_,_,_,_,_,_,_,_,_⟩ := bk5 (HM.bx 5 rfl)
      go_wp2_with (first | ((with_reducible refine gC 88 rfl ?_); refine pC (some 34) rfl #[.agg #[.int .i64 t291, .int .i64 t292, .slice Xo16 t293.length ko16, .slice Xo17 t296.length ko17, .slice Xo18 t299.length ko18]] rfl Tryz.func88 (spec_EvictMain.calls kj7 t291 t292 _ _ t293 _ _ t296 _ _ t299 t305 t306 t307 t310 t313 t316 t317 _ (HM.CR 2 rfl).2.2 (HM.CR 2 rfl).2.1 (HM.CR 3 rfl).2.2 (HM.CR 3 rfl).2.1 (HM.C 4 rfl).2.2 (HM.C 4 rfl).2.1 A24.out) ?_; rintro e w25 ⟨v308, v311, v314, rfl, hR⟩; refine ⟨_, rfl, ?_⟩; replace HM := HM.call hR; clear hR; obtain ⟨Xo26, ko26, rfl⟩ := HM.rdR 6 rfl; obtain ⟨Xo27, ko27, rfl⟩ := HM.rdR 7 rfl; obtain ⟨Xo28, ko28, rfl⟩ := HM.rdR 8 rfl) | ((with_reducible refine gS 2 rfl ?_); refine pS 1 2 0 [.int .i64 t305, .int .i64 t306, .slice Xo26 t307.length ko26, .slice Xo27 t310.length ko27, .slice Xo28 t313.length ko28] HM rfl rfl ?_; clear HM; intro w29 HM; replace HM := HM.toQ 8 rfl))
      refine bodyPost_ret (results_ctt rfl _ _ gb289 26 #[.int .i64 t305, .int .i64 t306, .slice Xo26 t307.length ko26, .slice Xo27 t310.length ko27, .slice Xo28 t313.length ko28] (0, 0) _ rfl (HM.bx 1 rfl) Tryz.underlying26 rfl (by kernel_rfl)) rfl ?_
      exact ⟨_, _, _, ER, (MD HM).pick [6, 7, 8]⟩
    ·subst c11
     replace H := BN H; obtain ⟨⟨t318, t319, t320, t323, t326, t329, t330⟩, A31, H⟩ := H
     simp only [Option.some.injEq, Prod.mk.injEq] at H
     obtain ⟨rfl, rfl, rfl, rfl, rfl, rfl, rfl⟩ := H
     obtain ⟨_,_,_,_,_,_,_,_,_,_⟩ := bk5 (HM.bx 0 rfl)
     go_wp2_with (first | ((with_reducible refine gC 88 rfl ?_); refine pC (some 39) rfl #[.agg #[.int .i64 a0_0, .int .i64 a0_1, .slice A0_2 l0_2.length c0_2, .slice A0_3 l0_3.length c0_3, .slice A0_4 l0_4.length c0_4]] rfl Tryz.func88 (spec_EvictMain.calls kj7 a0_0 a0_1 _ _ l0_2 _ _ l0_3 _ _ l0_4 t318 t319 t320 t323 t326 t329 t330 _ (HM.came HR0_2.out) HC0_2.out (HM.came HR0_3.out) HC0_3.out (HM.came HR0_4.out) HC0_4.out A31.out) ?_; rintro e w32 ⟨v321, v324, v327, rfl, hR⟩; refine ⟨_, rfl, ?_⟩; replace HM := HM.call hR; clear hR; obtain ⟨Xo33, ko33, rfl⟩ := HM.rdR 2 rfl; obtain ⟨Xo34, ko34, rfl⟩ := HM.rdR 3 rfl; obtain ⟨Xo35, ko35, rfl⟩ := HM.rdR 4 rfl) | ((with_reducible refine gS 2 rfl ?_); refine pS 1 2 0 [.int .i64 t318, .int .i64 t319, .slice Xo33 t320.length ko33, .slice Xo34 t323.length ko34, .slice Xo35 t326.length ko35] HM rfl rfl ?_; clear HM; intro w36 HM; replace HM := HM.toQ 4 rfl))
     refine bodyPost_ret (results_ctt rfl _ _ gb289 26 #[.int .i64 t318, .int .i64 t319, .slice Xo33 t320.length ko33, .slice Xo34 t323.length ko34, .slice Xo35 t326.length ko35] (0, 0) _ rfl (HM.bx 1 rfl) Tryz.underlying26 rfl (by kernel_rfl)) rfl ?_
     exact ⟨_, _, _, ER, (MD HM).pick [2, 3, 4]⟩
 ·subst c7
  simp only [Option.some.injEq, Prod.mk.injEq] at H
  obtain ⟨rfl, rfl, rfl, rfl, rfl, rfl, rfl⟩ := H
  go_wp2_with (first | ((with_reducible refine gS 2 rfl ?_); refine pS 1 2 0 [.int .i64 0, .int .i64 0, .slice none 0 0, .slice none 0 0, .slice none 0 0] HM rfl rfl ?_; clear HM; intro w37 HM; replace HM := HM.nl k60 60; replace HM := HM.nl k60 60; replace HM := HM.nl (Kd.int .i64) 3; replace HM := HM.toQ 4 rfl))
  refine bodyPost_ret (results_ctt rfl _ _ gb289 26 #[.int .i64 0, .int .i64 0, .slice none 0 0, .slice none 0 0, .slice none 0 0] (0, 0) _ rfl (HM.bx 1 rfl) Tryz.underlying26 rfl (by kernel_rfl)) rfl ?_
  exact ⟨_, _, _, ER, (MD HM).pick [2, 3, 4]⟩
mutual
def spec_Put.j0 : Nat → ByteArray → ByteArray → Bool → Int → Int → List (S60) → List (S60) → List Int → Option (Int × Int × (List (S60)) × (List (S60)) × List Int × List ByteArray × Bool)
 | 0, _, _, _, _, _, _, _, _ => none
 | k + 1, x1, x2, x26, x335000, x335001, x335002, x335003, x335004 => if x26 = true then (some (0, 0, ([] : List (S60)), ([] : List (S60)), ([] : List Int), ([] : List ByteArray), false)) else ((spec_l10Copy.f x335000 x335001 x335002 x335003 x335004).bind fun bt338 => ((spec_l10Touch.f k bt338.1 bt338.2.1 bt338.2.2.1 bt338.2.2.2.1 bt338.2.2.2.2 x1 true x2).bind fun bt349 => (if bt349.2.2.2.2.2.2 = true then (some (bt349.1, bt349.2.1, bt349.2.2.1, bt349.2.2.2.1, bt349.2.2.2.2.1, ([] : List ByteArray), true)) else (spec_Put.l0 k x1 x2 (([] : List ByteArray)) bt349.1 bt349.2.1 bt349.2.2.1 bt349.2.2.2.1 bt349.2.2.2.2.1))))
def spec_Put.l0 : Nat → ByteArray → ByteArray → List ByteArray → Int → Int → List (S60) → List (S60) → List Int → Option (Int × Int × (List (S60)) × (List (S60)) × List Int × List ByteArray × Bool)
 | 0, _, _, _, _, _, _, _, _ => none
 | k + 1, x1, x2, x12, x363000, x363001, x363002, x363003, x363004 => if (wrap64 ((x363002.length : Int) + (x363003.length : Int))) ≥ x363000 then ((spec_Evict.f k x363000 x363001 x363002 x363003 x363004).bind fun bt366 => (if x12.length < 8796093022208 then (spec_Put.l0 k x1 x2 (x12 ++ [bt366.2.2.2.2.2.1]) bt366.1 bt366.2.1 bt366.2.2.1 bt366.2.2.2.1 bt366.2.2.2.2.1) else (none))) else ((spec_Hash.f k x1).bind fun t384 => ((spec_l03Has.f k x363004 t384).bind fun t385 => (if t385 = true then ((spec_Hash.f k x1).bind fun t386 => ((spec_l08But.f k x363004 t386).bind fun t387 => (if x363003.length < 3518437208883 then (some (x363000, x363001, x363002, (x363003 ++ [(⟨x1, x2, 0⟩ : S60)]), t387, x12, true)) else (none)))) else (if x363002.length < 3518437208883 then (some (x363000, x363001, (x363002 ++ [(⟨x1, x2, 0⟩ : S60)]), x363003, x363004, x12, true)) else (none)))))
end
def spec_Put.f (k : Nat) (a0_0 : Int) (a0_1 : Int) (l0_2 : List (S60)) (l0_3 : List (S60)) (l0_4 : List Int) (a1 : ByteArray) (a2 : ByteArray) : Option (Int × Int × (List (S60)) × (List (S60)) × List Int × List ByteArray × Bool) := (spec_ThreeOk.f k a0_0 a0_1 l0_2 l0_3 l0_4).bind fun t336 => (if t336 = true then ((spec_ItemOk.f k a1 a2 0).bind fun t337 => (spec_Put.j0 k a1 a2 (!t337) a0_0 a0_1 l0_2 l0_3 l0_4)) else (spec_Put.j0 k a1 a2 true a0_0 a0_1 l0_2 l0_3 l0_4))
def spec_Put.T12 : Bool × List (List Nat × List Nat) := (true, [([], []), ([0], [0]), ([], []), ([2], [2]), ([1, 3, 3], [1, 3])])
def spec_Put.B12 : List Nat := [0, 1, 0, 4, 15]
theorem spec_Put.tab12 : rtab .any (opsOf Tryz.f48 12) = spec_Put.T12 := by kernel_rfl
theorem spec_Put.bits12 : waitsOk spec_Put.T12.2 spec_Put.B12 = true := by kernel_rfl
def spec_Put.T13 : Bool × List (List Nat × List Nat) := (true, [([], []), ([0], [0]), ([], []), ([2], [2]), ([1, 3, 3], [1, 3]), ([0, 1, 2, 3, 4], []), ([5, 4, 4, 0, 1, 2, 3, 4], [4, 5])])
def spec_Put.B13 : List Nat := [0, 1, 0, 4, 15, 31, 63]
theorem spec_Put.tab13 : rtab .any (opsOf Tryz.f48 13) = spec_Put.T13 := by kernel_rfl
theorem spec_Put.bits13 : waitsOk spec_Put.T13.2 spec_Put.B13 = true := by kernel_rfl
theorem spec_Put.calls (k : Nat) (a0_0 : Int) (a0_1 : Int) (A0_2 : Option Addr) (c0_2 : Nat) (l0_2 : List (S60)) (A0_3 : Option Addr) (c0_3 : Nat) (l0_3 : List (S60)) (A0_4 : Option Addr) (c0_4 : Nat) (l0_4 : List Int) (a1 : ByteArray) (a2 : ByteArray) (r1 : Int) (r2 : Int) (r3 : List (S60)) (r4 : List (S60)) (r5 : List Int) (r6 : List ByteArray) (r7 : Bool) (w : World) (hr0_2 : Kd.C k60 w A0_2 l0_2.length l0_2) (hc0_2 : l0_2.length ≤ c0_2) (hr0_3 : Kd.C k60 w A0_3 l0_3.length l0_3) (hc0_3 : l0_3.length ≤ c0_3) (hr0_4 : Kd.C (Kd.int .i64) w A0_4 l0_4.length l0_4) (hc0_4 : l0_4.length ≤ c0_4) (h : spec_Put.f k a0_0 a0_1 l0_2 l0_3 l0_4 a1 a2 = some (r1, r2, r3, r4, r5, r6, r7)) :
  Calls Tryz.prog 48 #[.agg #[.int .i64 a0_0, .int .i64 a0_1, .slice A0_2 l0_2.length c0_2, .slice A0_3 l0_3.length c0_3, .slice A0_4 l0_4.length c0_4], .string a1, .string a2] w fun e w' => ∃ v2_ v3_ v4_ v5_ : Value, e = .returned (.tuple #[.agg #[.int .i64 r1, .int .i64 r2, v2_, v3_, v4_], v5_, .bool r7]) ∧ Mem w [] w' [rowR k60 60 v2_ r3, rowR k60 60 v3_ r4, row (Kd.int .i64) 3 v4_ r5, rowR Kd.string 9 v5_ r6] := by
 have hu26 := Tryz.underlying26
 have hu60 := Tryz.underlying60
 have HR0_2 := Aside0.mk hr0_2
 have HC0_2 := Aside0.mk hc0_2
 clear hr0_2 hc0_2
 have HR0_3 := Aside0.mk hr0_3
 have HC0_3 := Aside0.mk hc0_3
 clear hr0_3 hc0_3
 have HR0_4 := Aside0.mk hr0_4
 have HC0_4 := Aside0.mk hc0_4
 clear hr0_4 hc0_4
 have HM := Mem.nil w
 have H := h
 clear h
 unfold spec_Put.f at H
 go_enter Tryz.func48, Tryz.ntmps48
 have HC6 := Aside0.mk H
 clear H
 go_upto_region 1 with (first | ((with_reducible refine gN 3 rfl ?_); refine pB 3 26 [.int .i64 a0_0, .int .i64 a0_1, .slice A0_2 l0_2.length c0_2, .slice A0_3 l0_3.length c0_3, .slice A0_4 l0_4.length c0_4] HM rfl ?_; clear HM; intro gb334 w4 HM) | ((with_reducible refine gN 6 rfl ?_); refine pB 6 26 [.int .i64 0, .int .i64 0, .slice none 0 0, .slice none 0 0, .slice none 0 0] HM rfl ?_; clear HM; intro gb335 w5 HM))
 replace HM := nzM HM
 try simp only [Act.put, List.setIfInBounds_toArray, List.set_cons_zero, List.set_cons_succ]
 go_cut [26] (fun v26 wc => ∃ (kq : Nat) (x26_5 : Bool), v26 = .bool x26_5 ∧ Aside0 (spec_Put.j0 kq a1 a2 x26_5 a0_0 a0_1 l0_2 l0_3 l0_4 = some (r1, r2, r3, r4, r5, r6, r7)) ∧ Aside0 (kq ≤ k) ∧ Mem w [] wc [box 26 gb334 [.int .i64 a0_0, .int .i64 a0_1, .slice A0_2 l0_2.length c0_2, .slice A0_3 l0_3.length c0_3, .slice A0_4 l0_4.length c0_4], box 26 gb335 [.int .i64 0, .int .i64 0, .slice none 0 0, .slice none 0 0, .slice none 0 0]])
 case first =>
  have H := HC6.out
  clear HC6
  replace H := BN H; obtain ⟨t336, A8, H⟩ := H
  replace H := IB H
  rcases H with ⟨c10, H⟩ | ⟨c10, H⟩
  ·subst c10
   replace H := BN H; obtain ⟨t337, A11, H⟩ := H
   have H' := Aside0.mk H
   clear H
   obtain ⟨_,_,_,_,_,_,_,_,_,_⟩ := bk5 (HM.bx 0 rfl)
   go_wp2_with (first | ((with_reducible refine gC 47 rfl ?_); refine pC (some 18) rfl #[.agg #[.int .i64 a0_0, .int .i64 a0_1, .slice A0_2 l0_2.length c0_2, .slice A0_3 l0_3.length c0_3, .slice A0_4 l0_4.length c0_4]] rfl Tryz.func47 (spec_ThreeOk.calls k a0_0 a0_1 _ _ l0_2 _ _ l0_3 _ _ l0_4 true _ (HM.came HR0_2.out) HC0_2.out (HM.came HR0_3.out) HC0_3.out (HM.came HR0_4.out) HC0_4.out A8.out) ?_; rintro e w9 ⟨rfl, hR⟩; refine ⟨_, rfl, ?_⟩; replace HM := HM.call hR; clear hR) | ((with_reducible refine gC 69 rfl ?_); refine pC (some 24) rfl #[.agg #[.string a1, .string a2, .int .i64 0]] rfl Tryz.func69 (spec_ItemOk.calls k a1 a2 0 t337 _ A11.out) ?_; rintro e w12 ⟨rfl, hR⟩; refine ⟨_, rfl, ?_⟩; replace HM := HM.call hR; clear hR))
   go_meet
   case rel => exact ⟨_, (!t337), RS, H', ⟨by first | omega | exact Nat.le_refl _⟩, (MD HM).pick [0, 1]⟩
  ·subst c10
   have H' := Aside0.mk H
   clear H
   obtain ⟨_,_,_,_,_,_,_,_,_,_⟩ := bk5 (HM.bx 0 rfl)
   go_wp2_with (first | ((with_reducible refine gC 47 rfl ?_); refine pC (some 18) rfl #[.agg #[.int .i64 a0_0, .int .i64 a0_1, .slice A0_2 l0_2.length c0_2, .slice A0_3 l0_3.length c0_3, .slice A0_4 l0_4.length c0_4]] rfl Tryz.func47 (spec_ThreeOk.calls k a0_0 a0_1 _ _ l0_2 _ _ l0_3 _ _ l0_4 false _ (HM.came HR0_2.out) HC0_2.out (HM.came HR0_3.out) HC0_3.out (HM.came HR0_4.out) HC0_4.out A8.out) ?_; rintro e w9 ⟨rfl, hR⟩; refine ⟨_, rfl, ?_⟩; replace HM := HM.call hR; clear hR))
   go_meet
   case rel => exact ⟨_, (true), RS, H', ⟨by first | omega | exact Nat.le_refl _⟩, (MD HM).pick [0, 1]⟩
 case rest =>
  clear HC6 HM
  obtain ⟨kq, x26_5, rfl, HA, HJ5, HM⟩ := hcut
  cases kq with
  | zero => exact absurd HA.out (by simp [spec_Put.j0])
  | succ kj5 =>
   have H := HA.out
   clear HA
   simp only [spec_Put.j0] at H
   go_upto_if 26 with (fail)
   replace H := IB H
   rcases H with ⟨c13, H⟩ | ⟨c13, H⟩
   ·subst c13
    simp only [Option.some.injEq, Prod.mk.injEq] at H
    obtain ⟨rfl, rfl, rfl, rfl, rfl, rfl, rfl⟩ := H
    go_wp2_with (first | ((with_reducible refine gS 6 rfl ?_); refine pS 1 6 0 [.int .i64 0, .int .i64 0, .slice none 0 0, .slice none 0 0, .slice none 0 0] HM rfl rfl ?_; clear HM; intro w14 HM; replace HM := HM.nl k60 60; replace HM := HM.nl k60 60; replace HM := HM.nl (Kd.int .i64) 3; replace HM := HM.toQ 4 rfl; replace HM := HM.nl Kd.string 9))
    refine bodyPost_ret (results_ctt rfl _ _ gb335 26 #[.int .i64 0, .int .i64 0, .slice none 0 0, .slice none 0 0, .slice none 0 0] (0, 0) _ rfl (HM.bx 1 rfl) Tryz.underlying26 rfl (by kernel_rfl)) rfl ?_
    exact ⟨_, _, _, _, ER, (MD HM).pick [2, 3, 4, 5]⟩
   ·subst c13
    replace H := BN H; obtain ⟨⟨t338, t339, t340, t343, t346⟩, A16, H⟩ := H
    replace H := BN H; obtain ⟨⟨t349, t350, t351, t354, t357, t360, t361⟩, A18, H⟩ := H
    obtain ⟨_,_,_,_,_,_,_,_,_,_⟩ := bk5 (HM.bx 0 rfl)
    go_upto_if 37 with (first | ((with_reducible refine gC 74 rfl ?_); refine pC (some 30) rfl #[.agg #[.int .i64 a0_0, .int .i64 a0_1, .slice A0_2 l0_2.length c0_2, .slice A0_3 l0_3.length c0_3, .slice A0_4 l0_4.length c0_4]] rfl Tryz.func74 (spec_l10Copy.calls a0_0 a0_1 _ _ l0_2 _ _ l0_3 _ _ l0_4 t338 t339 t340 t343 t346 _ (HM.came HR0_2.out) HC0_2.out (HM.came HR0_3.out) HC0_3.out (HM.came HR0_4.out) HC0_4.out A16.out) ?_; rintro e w17 ⟨v341, v344, v347, rfl, hR⟩; refine ⟨_, rfl, ?_⟩; replace HM := HM.call hR; clear hR) | ((with_reducible refine gC 73 rfl ?_); refine pC (some 33) rfl #[.agg #[.int .i64 t338, .int .i64 t339, v341, v344, v347], .string a1, .bool true, .string a2] rfl Tryz.func73 (spec_l10Touch.calls kj5 t338 t339 v341 t340 v344 t343 v347 t346 a1 true a2 t349 t350 t351 t354 t357 t360 t361 _ _ _ (HM.focus [0, 1] [2, 3, 4]) A18.out) ?_; rintro e w19 ⟨v352, v355, v358, rfl, hR⟩; refine ⟨_, rfl, ?_⟩; replace HM := nzM hR.unfocus; clear hR) | ((with_reducible refine gN 9 rfl ?_); refine pB 9 26 [.int .i64 0, .int .i64 0, .slice none 0 0, .slice none 0 0, .slice none 0 0] HM rfl ?_; clear HM; intro gb362 w20 HM; obtain ⟨Xo21, ko21, rfl⟩ := HM.rdR 2 rfl; obtain ⟨Xo22, ko22, rfl⟩ := HM.rdR 3 rfl; obtain ⟨Xo23, ko23, rfl⟩ := HM.rdR 4 rfl) | ((with_reducible refine gS 9 rfl ?_); refine pS 5 9 0 [.int .i64 t349, .int .i64 t350, .slice Xo21 t351.length ko21, .slice Xo22 t354.length ko22, .slice Xo23 t357.length ko23] HM rfl rfl ?_; clear HM; intro w24 HM))
    replace HM := nzM HM
    replace H := IB H
    rcases H with ⟨c25, H⟩ | ⟨c25, H⟩
    ·subst c25
     simp only [Option.some.injEq, Prod.mk.injEq] at H
     obtain ⟨rfl, rfl, rfl, rfl, rfl, rfl, rfl⟩ := H
     obtain ⟨_,_,_,_,_,_,_,_,_,_⟩ := bk5 (HM.bx 5 rfl)
     go_wp2_with (first | ((with_reducible refine gS 6 rfl ?_); refine pS 1 6 0 [.int .i64 t349, .int .i64 t350, .slice Xo21 t351.length ko21, .slice Xo22 t354.length ko22, .slice Xo23 t357.length ko23] HM rfl rfl ?_; clear HM; intro w27 HM; replace HM := HM.toQ 4 rfl; replace HM := HM.nl Kd.string 9))
     refine bodyPost_ret (results_ctt rfl _ _ gb335 26 #[.int .i64 t349, .int .i64 t350, .slice Xo21 t351.length ko21, .slice Xo22 t354.length ko22, .slice Xo23 t357.length ko23] (0, 0) _ rfl (HM.bx 1 rfl) Tryz.underlying26 rfl (by kernel_rfl)) rfl ?_
     exact ⟨_, _, _, _, ER, (MD HM).pick [2, 3, 4, 6]⟩
    ·subst c25
     have H' := Aside0.mk H
     clear H
     go_wp2_with (first | ((with_reducible refine gN 39 rfl ?_); refine pL 39 Kd.string 9 ([] : List ByteArray) [] (Reps.none _ _) HM rfl ?_; clear HM; intro v364 w28 HM; replace HM := HM.toQ 4 rfl))
     go_loopg [12] kj5 (fun kq v12 w' => ∃ (x12_2 : List ByteArray) (x363000_2 : Int) (x363001_2 : Int) (x363002_2 : List (S60)) (x363003_2 : List (S60)) (x363004_2 : List Int) (u363002 : Value) (u363003 : Value) (u363004 : Value), Aside0 (spec_Put.l0 kq a1 a2 x12_2 x363000_2 x363001_2 x363002_2 x363003_2 x363004_2 = some (r1, r2, r3, r4, r5, r6, r7)) ∧ Aside0 (kq ≤ kj5) ∧ Mem w [] w' [rowR Kd.string 9 v12 x12_2, rowR k60 60 u363002 x363002_2, rowR k60 60 u363003 x363003_2, row (Kd.int .i64) 3 u363004 x363004_2, box 26 gb334 [.int .i64 a0_0, .int .i64 a0_1, .slice A0_2 l0_2.length c0_2, .slice A0_3 l0_3.length c0_3, .slice A0_4 l0_4.length c0_4], box 26 gb335 [.int .i64 0, .int .i64 0, .slice none 0 0, .slice none 0 0, .slice none 0 0], box 26 gb362 [.int .i64 x363000_2, .int .i64 x363001_2, u363002, u363003, u363004]])
     case atStart => exact ⟨((([] : List ByteArray))), (t349), (t350), (t351), (t354), (t357), (.slice Xo21 t351.length ko21), (.slice Xo22 t354.length ko22), (.slice Xo23 t357.length ko23), H', ⟨Nat.le_refl _⟩, (MD HM).pick [6, 2, 3, 4, 0, 1, 5]⟩
     case round =>
      clear H' HM
      obtain ⟨x12_2, x363000_2, x363001_2, x363002_2, x363003_2, x363004_2, u363002, u363003, u363004, HA, HK2, HM⟩ := hrel
      cases gk with
      | zero => exact absurd HA.out (by simp [spec_Put.l0])
      | succ k2 =>
       have H := HA.out
       clear HA
       simp only [spec_Put.l0] at H
       obtain ⟨_,_,_,_,_,_,_,_,_,_⟩ := bk5 (HM.bx 6 rfl)
       obtain ⟨Xo30, ko30, rfl⟩ := HM.rdR 1 rfl
       obtain ⟨Xo31, ko31, rfl⟩ := HM.rdR 2 rfl
       go_upto_if 49 with (fail)
       replace H := IT H; rcases H with ⟨c32, H⟩ | ⟨c32, H⟩
       ·have c32b0 : decide (x363000_2 ≤ (wrap64 ((x363002_2.length : Int) + (x363003_2.length : Int)))) = true := decide_eq_true c32
        clear c32
        first|rw [c32b0]|(simp only [i64_w, i32_w]; rw [c32b0])|skip
        replace H := BN H; obtain ⟨⟨t366, t367, t368, t371, t374, t377, t378⟩, A33, H⟩ := H
        replace H := GD H; obtain ⟨c43, H⟩ := H
        have LMc43 := Aside0.mk c43
        clear c43
        have H' := Aside0.mk H
        clear H
        obtain ⟨Xo35, ko35, rfl⟩ := HM.rd 3 rfl
        go_wp2_with (first | ((with_reducible refine gC 75 rfl ?_); refine pC (some 52) rfl #[.agg #[.int .i64 x363000_2, .int .i64 x363001_2, .slice Xo30 x363002_2.length ko30, .slice Xo31 x363003_2.length ko31, .slice Xo35 x363004_2.length ko35]] rfl Tryz.func75 (spec_Evict.calls k2 x363000_2 x363001_2 _ _ x363002_2 _ _ x363003_2 _ _ x363004_2 t366 t367 t368 t371 t374 t377 t378 _ (HM.CR 1 rfl).2.2 (HM.CR 1 rfl).2.1 (HM.CR 2 rfl).2.2 (HM.CR 2 rfl).2.1 (HM.C 3 rfl).2.2 (HM.C 3 rfl).2.1 A33.out) ?_; rintro e w34 ⟨v369, v372, v375, rfl, hR⟩; refine ⟨_, rfl, ?_⟩; replace HM := HM.call hR; clear hR) | ((with_reducible refine gN 13 rfl ?_); refine pB 13 26 [.int .i64 0, .int .i64 0, .slice none 0 0, .slice none 0 0, .slice none 0 0] HM rfl ?_; clear HM; intro gb379 w36 HM; obtain ⟨Xo37, ko37, rfl⟩ := HM.rdR 7 rfl; obtain ⟨Xo38, ko38, rfl⟩ := HM.rdR 8 rfl; obtain ⟨Xo39, ko39, rfl⟩ := HM.rd 9 rfl) | ((with_reducible refine gS 13 rfl ?_); refine pS 10 13 0 [.int .i64 t366, .int .i64 t367, .slice Xo37 t368.length ko37, .slice Xo38 t371.length ko38, .slice Xo39 t374.length ko39] HM rfl rfl ?_; clear HM; intro w40 HM; obtain ⟨_,_,_,_,_,_,_,_,_,_⟩ := bk5 (HM.bx 10 rfl)) | ((with_reducible refine gS 9 rfl ?_); refine pS 6 9 0 [.int .i64 t366, .int .i64 t367, .slice Xo37 t368.length ko37, .slice Xo38 t371.length ko38, .slice Xo39 t374.length ko39] HM rfl rfl ?_; clear HM; intro w42 HM) | ((with_reducible refine gN 59 rfl ?_); refine pL 59 Kd.string 9 [t377] [.string t377] (Reps.one (show Kd.M Kd.string _ _ _ t377 [.string t377] from rfl) (Reps.none _ _)) HM rfl ?_; clear HM; intro v45 w44 HM; obtain ⟨Xv45, kv45, rfl⟩ := HM.rdR 11 rfl) | ((with_reducible refine gate_builtin (b := .append) (xs := #[.tmp 57, .tmp 59]) rfl ?_); refine pA 0 (.tmp 57) (.tmp 59) 71 9 Kd.string u12 x12_2 [t377] Xv45 ([t377].length) kv45 HM rfl Tryz.underlying71 info9 rfl (HM.CR 11 rfl).2.2 (by have h_ := LMc43.out; simp only [List.length_singleton]; omega) ?_; clear HM; intro v381 w46 HM))
        go_roundg k2
        case measure => have := HJ5.out; have := HK2.out; omega
        case rel => exact ⟨((x12_2 ++ [t377])), (t366), (t367), (t368), (t371), (t374), (.slice Xo37 t368.length ko37), (.slice Xo38 t371.length ko38), (.slice Xo39 t374.length ko39), H', ⟨by have := HJ5.out; have := HK2.out; omega⟩, (MD HM).pick [0, 7, 8, 9, 4, 5, 6]⟩
       ·have c32b0 : decide (x363000_2 ≤ (wrap64 ((x363002_2.length : Int) + (x363003_2.length : Int)))) = false := decide_eq_false c32
        clear c32
        first|rw [c32b0]|(simp only [i64_w, i32_w]; rw [c32b0])|skip
        try go_wp2_with (first | ((with_reducible refine gN 16 rfl ?_); refine pB 16 60 [.string (⟨#[]⟩ : ByteArray), .string (⟨#[]⟩ : ByteArray), .int .i64 0] HM rfl ?_; clear HM; intro gb383 w47 HM) | ((with_reducible refine gS 16 rfl ?_); refine pS 7 16 0 [.string a1, .string a2, .int .i64 0] HM rfl rfl ?_; clear HM; intro w48 HM))
        replace H := BN H; obtain ⟨t384, A49, H⟩ := H
        replace H := BN H; obtain ⟨t385, A50, H⟩ := H
        obtain ⟨Xo55, ko55, rfl⟩ := HM.rd 3 rfl
        refine RGN 5 [0, 1, 2, 3, 4] (fun a0 b a w' => a = putSel a0 b [(0, 64, .pointer (some ⟨gb362, 4, none⟩)), (1, 65, .slice Xo55 x363004_2.length ko55), (2, 66, .string a1), (3, 67, .int .i64 t384), (4, 68, .bool t385)] ∧ Mem w [] w' [rowR Kd.string 9 u12 x12_2, rowR k60 60 (.slice Xo30 x363002_2.length ko30) x363002_2, rowR k60 60 (.slice Xo31 x363003_2.length ko31) x363003_2, row (Kd.int .i64) 3 (.slice Xo55 x363004_2.length ko55) x363004_2, box 26 gb334 [.int .i64 a0_0, .int .i64 a0_1, .slice A0_2 l0_2.length c0_2, .slice A0_3 l0_3.length c0_3, .slice A0_4 l0_4.length c0_4], box 26 gb335 [.int .i64 0, .int .i64 0, .slice none 0 0, .slice none 0 0, .slice none 0 0], box 26 gb362 [.int .i64 x363000_2, .int .i64 x363001_2, .slice Xo30 x363002_2.length ko30, .slice Xo31 x363003_2.length ko31, .slice Xo55 x363004_2.length ko55], box 60 gb383 [.string a1, .string a2, .int .i64 0]]) spec_Put.tab12 spec_Put.bits12 ?_ ?_ ?_
        ·exact ⟨PS0' rfl _, (HM.drew).pick [0, 1, 2, 3, 4, 5, 6, 7]⟩
        ·clear HM
         refine SY ?_ ?_
         ·intro b a w ha HM hb hon hoff K hK
          have e9 := PG ha 9
          exact VL (.pointer (some ⟨gb362, 4, none⟩)) (hK.out _ _ ⟨PUT ha 0 hb, HM⟩)
         refine SY ?_ ?_
         ·intro b a w ha HM hb hon hoff K hK
          obtain ⟨_,_,_,_,_,_,_,_,_,_⟩ := bk5 (HM.bx 6 rfl)
          have e64 := PE ha 0 hon
          exact VL (.slice Xo55 x363004_2.length ko55) (hK.out _ _ ⟨PUT ha 1 hb, HM⟩)
         refine SY ?_ ?_
         ·intro b a w ha HM hb hon hoff K hK
          have e1 := PG ha 1
          exact VL (.string a1) (hK.out _ _ ⟨PUT ha 2 hb, HM⟩)
         refine SY ?_ ?_
         ·intro b a w ha HM hb hon hoff K hK
          have e66 := PE ha 2 hon
          refine ST (eC (some 67) rfl #[.string a1] rfl Tryz.func76 (spec_Hash.calls k2 a1 t384 _ A49.out) ?_ (hargs := by (simp only [List.map_toArray, List.map_cons, List.map_nil, evc, eval_of e66]) <;> rfl))
          rintro e w57 ⟨rfl, hd⟩
          refine ⟨_, rfl, ?_⟩
          replace HM := HM.drawn hd
          clear hd
          exact hK.out _ _ ⟨PUT ha 3 hb, (HM).pick [0, 1, 2, 3, 4, 5, 6, 7]⟩
         refine SY ?_ ?_
         ·intro b a w ha HM hb hon hoff K hK
          have e65 := PE ha 1 hon
          have e67 := PE ha 3 hon
          refine ST (eC (some 68) rfl #[.slice Xo55 x363004_2.length ko55, .int .i64 t384] rfl Tryz.func72 (spec_l03Has.calls k2 _ _ x363004_2 t384 t385 _ (HM.C 3 rfl).2.2 (HM.C 3 rfl).2.1 A50.out) ?_ (hargs := by (simp only [List.map_toArray, List.map_cons, List.map_nil, evc, eval_of e65, eval_of e67]) <;> rfl))
          rintro e w58 ⟨rfl, hd⟩
          refine ⟨_, rfl, ?_⟩
          replace HM := HM.drawn hd
          clear hd
          exact hK.out _ _ ⟨PUT ha 4 hb, (HM).pick [0, 1, 2, 3, 4, 5, 6, 7]⟩
         exact steps_nil
        rintro _ w59 ⟨rfl, HM⟩
        simp only [putSel, if_true, Act.put, List.setIfInBounds_toArray, List.set_cons_zero, List.set_cons_succ, gt_iff_lt, ge_iff_le]
        go_upto_if 68 with (fail)
        replace H := IB H
        rcases H with ⟨c60, H⟩ | ⟨c60, H⟩
        ·subst c60
         try go_wp2
         replace H := BN H; obtain ⟨t386, A61, H⟩ := H
         replace H := BN H; obtain ⟨t387, A62, H⟩ := H
         refine RGN 7 [0, 1, 2, 3, 4, 5, 6] (fun a0 b a w' => ∃ (v388 : Value), a = putSel a0 b [(0, 69, .pointer (some ⟨gb362, 4, none⟩)), (1, 70, .slice Xo55 x363004_2.length ko55), (2, 71, .string a1), (3, 72, .int .i64 t386), (4, 73, v388), (5, 74, .pointer (some ⟨gb362, 4, none⟩))] ∧ Mem w [] w' [rowR Kd.string 9 u12 x12_2, rowR k60 60 (.slice Xo30 x363002_2.length ko30) x363002_2, rowR k60 60 (.slice Xo31 x363003_2.length ko31) x363003_2, row (Kd.int .i64) 3 (.slice Xo55 x363004_2.length ko55) x363004_2, box 26 gb334 [.int .i64 a0_0, .int .i64 a0_1, .slice A0_2 l0_2.length c0_2, .slice A0_3 l0_3.length c0_3, .slice A0_4 l0_4.length c0_4], box 26 gb335 [.int .i64 0, .int .i64 0, .slice none 0 0, .slice none 0 0, .slice none 0 0], sel (b 6) (box 26 gb362 [.int .i64 x363000_2, .int .i64 x363001_2, .slice Xo30 x363002_2.length ko30, .slice Xo31 x363003_2.length ko31, v388]) (box 26 gb362 [.int .i64 x363000_2, .int .i64 x363001_2, .slice Xo30 x363002_2.length ko30, .slice Xo31 x363003_2.length ko31, .slice Xo55 x363004_2.length ko55]), box 60 gb383 [.string a1, .string a2, .int .i64 0], sel (b 4) (rowR (Kd.int .i64) 3 v388 t387) (emp)]) spec_Put.tab13 spec_Put.bits13 ?_ ?_ ?_
         ·exact ⟨.bool false, PS0' rfl _, (HM.drew.ems 1).pick [0, 1, 2, 3, 4, 5, 6, 7, 8]⟩
         ·clear HM
          refine SZ ?_ ?_
          ·rintro b a w ⟨v388, ha, HM⟩ hb hon hoff K hK
           replace ha := Aside0.mk ha
           have e9 := PG ha 9
           exact VL (.pointer (some ⟨gb362, 4, none⟩)) (hK.out _ _ ⟨v388, PUT ha 0 hb, HM⟩)
          refine SZ ?_ ?_
          ·rintro b a w ⟨v388, ha, HM⟩ hb hon hoff K hK
           replace ha := Aside0.mk ha
           have HZ := HM
           replace HM := HM.sF 6 rfl (hoff 6 rfl)
           obtain ⟨_,_,_,_,_,_,_,_,_,_⟩ := bk5 (HM.bx 6 rfl)
           have e69 := PE ha 0 hon
           exact VL (.slice Xo55 x363004_2.length ko55) (hK.out _ _ ⟨v388, PUT ha 1 hb, HZ⟩)
          refine SZ ?_ ?_
          ·rintro b a w ⟨v388, ha, HM⟩ hb hon hoff K hK
           replace ha := Aside0.mk ha
           have e1 := PG ha 1
           exact VL (.string a1) (hK.out _ _ ⟨v388, PUT ha 2 hb, HM⟩)
          refine SZ ?_ ?_
          ·rintro b a w ⟨v388, ha, HM⟩ hb hon hoff K hK
           replace ha := Aside0.mk ha
           have e71 := PE ha 2 hon
           refine ST (eC (some 72) rfl #[.string a1] rfl Tryz.func76 (spec_Hash.calls k2 a1 t386 _ A61.out) ?_ (hargs := by (simp only [List.map_toArray, List.map_cons, List.map_nil, evc, eval_of e71]) <;> rfl))
           rintro e w69 ⟨rfl, hd⟩
           refine ⟨_, rfl, ?_⟩
           replace HM := HM.drawn hd
           clear hd
           exact hK.out _ _ ⟨v388, PUT ha 3 hb, (HM).pick [0, 1, 2, 3, 4, 5, 6, 7, 8]⟩
          refine SZ ?_ ?_
          ·rintro b a w ⟨v388, ha, HM⟩ hb hon hoff K hK
           replace ha := Aside0.mk ha
           have e70 := PE ha 1 hon
           have e72 := PE ha 3 hon
           refine ST (eC (some 73) rfl #[.slice Xo55 x363004_2.length ko55, .int .i64 t386] rfl Tryz.func77 (spec_l08But.calls k2 _ _ x363004_2 t386 t387 _ (HM.C 3 rfl).2.2 (HM.C 3 rfl).2.1 A62.out) ?_ (hargs := by (simp only [List.map_toArray, List.map_cons, List.map_nil, evc, eval_of e70, eval_of e72]) <;> rfl))
           rintro e w70 ⟨v388, rfl, hR⟩
           refine ⟨_, rfl, ?_⟩
           replace HM := HM.call hR
           clear hR
           exact hK.out _ _ ⟨v388, PUT ha 4 hb, ((HM.sF 6 rfl (hoff 6 rfl)).iF 6 rfl (hoff 6 rfl)).pick [0, 1, 2, 3, 4, 5, 6, 7, 9]⟩
          refine SZ ?_ ?_
          ·rintro b a w ⟨v388, ha, HM⟩ hb hon hoff K hK
           replace ha := Aside0.mk ha
           have e9 := PG ha 9
           exact VL (.pointer (some ⟨gb362, 4, none⟩)) (hK.out _ _ ⟨v388, PUT ha 5 hb, HM⟩)
          refine SZ ?_ ?_
          ·rintro b a w ⟨v388, ha, HM⟩ hb hon hoff K hK
           replace ha := Aside0.mk ha
           replace HM := HM.sF 6 rfl hb
           replace HM := HM.sT 8 rfl (hon 4 rfl)
           obtain ⟨Xo71, ko71, rfl⟩ := HM.rdR 8 rfl
           have e74 := PE ha 5 hon
           have e73 := PE ha 4 hon
           refine ST (eS 6 74 4 [.slice Xo71 t387.length ko71] HM rfl rfl ?_ (hp := (eval_of e74)) (hx := (by rw [eval_of e73]; rfl)))
           clear HM
           intro w72 HM
           exact hK.out _ _ ⟨.slice Xo71 t387.length ko71, PUS ha, (HM.iT 8 rfl (hon 4 rfl)).pick [0, 1, 2, 3, 4, 5, 6, 7, 8]⟩
          exact steps_nil
         rintro _ w73 ⟨v388, rfl, HM⟩
         replace HM := HM.sT 6 rfl rfl
         replace HM := HM.sT 8 rfl rfl
         simp only [putSel, if_true, Act.put, List.setIfInBounds_toArray, List.set_cons_zero, List.set_cons_succ, gt_iff_lt, ge_iff_le]
         replace H := GD H; obtain ⟨c76, H⟩ := H
         have LMc76 := Aside0.mk c76
         clear c76
         simp only [Option.some.injEq, Prod.mk.injEq] at H
         obtain ⟨rfl, rfl, rfl, rfl, rfl, rfl, rfl⟩ := H
         obtain ⟨_,_,_,_,_,_,_,_,_,_⟩ := bk5 (HM.bx 6 rfl)
         obtain ⟨_,_,_,_,_,_⟩ := bk3 (HM.bx 7 rfl)
         go_wp2_with (first | ((with_reducible refine gN 78 rfl ?_); refine pL 78 k60 60 [(⟨a1, a2, 0⟩ : S60)] [.string a1, .string a2, .int .i64 0] (Reps.c3 (show Kd.M k60 _ _ _ (⟨a1, a2, 0⟩ : S60) [.string a1, .string a2, .int .i64 0] from (k60_mkM _ _ _ (⟨a1, a2, 0⟩ : S60))) (Reps.none _ _)) HM rfl ?_; clear HM; intro v78 w77 HM; obtain ⟨Xv78, kv78, rfl⟩ := HM.rdR 9 rfl) | ((with_reducible refine gate_builtin (b := .append) (xs := #[.tmp 76, .tmp 78]) rfl ?_); refine pA 2 (.tmp 76) (.tmp 78) 23 60 k60 (.slice Xo31 x363003_2.length ko31) x363003_2 [(⟨a1, a2, 0⟩ : S60)] Xv78 ([(⟨a1, a2, 0⟩ : S60)].length) kv78 HM rfl Tryz.underlying23 info60 rfl (HM.CR 9 rfl).2.2 (by have h_ := LMc76.out; simp only [List.length_singleton]; omega) ?_; clear HM; intro v391 w79 HM; obtain ⟨Xo80, ko80, rfl⟩ := HM.rdR 2 rfl) | ((with_reducible refine gS 80 rfl ?_); refine pS 6 80 3 [.slice Xo80 (x363003_2 ++ [(⟨a1, a2, 0⟩ : S60)]).length ko80] HM rfl rfl ?_; clear HM; intro w81 HM; obtain ⟨_,_,_,_,_,_,_,_,_,_⟩ := bk5 (HM.bx 6 rfl); obtain ⟨Xo83, ko83, rfl⟩ := HM.rdR 8 rfl) | ((with_reducible refine gS 6 rfl ?_); refine pS 5 6 0 [.int .i64 x363000_2, .int .i64 x363001_2, .slice Xo30 x363002_2.length ko30, .slice Xo80 (x363003_2 ++ [(⟨a1, a2, 0⟩ : S60)]).length ko80, .slice Xo83 t387.length ko83] HM rfl rfl ?_; clear HM; intro w84 HM; replace HM := HM.toQ 8 rfl))
         refine bodyPost_ret (results_ctt rfl _ _ gb335 26 #[.int .i64 x363000_2, .int .i64 x363001_2, .slice Xo30 x363002_2.length ko30, .slice Xo80 (x363003_2 ++ [(⟨a1, a2, 0⟩ : S60)]).length ko80, .slice Xo83 t387.length ko83] (0, 0) _ rfl (HM.bx 5 rfl) Tryz.underlying26 rfl (by kernel_rfl)) rfl ?_
         exact ⟨_, _, _, _, ER, (MD HM).pick [1, 2, 8, 0]⟩
        ·subst c60
         replace H := GD H; obtain ⟨c87, H⟩ := H
         have LMc87 := Aside0.mk c87
         clear c87
         simp only [Option.some.injEq, Prod.mk.injEq] at H
         obtain ⟨rfl, rfl, rfl, rfl, rfl, rfl, rfl⟩ := H
         obtain ⟨_,_,_,_,_,_,_,_,_,_⟩ := bk5 (HM.bx 6 rfl)
         obtain ⟨_,_,_,_,_,_⟩ := bk3 (HM.bx 7 rfl)
         go_wp2_with (first | ((with_reducible refine gN 84 rfl ?_); refine pL 84 k60 60 [(⟨a1, a2, 0⟩ : S60)] [.string a1, .string a2, .int .i64 0] (Reps.c3 (show Kd.M k60 _ _ _ (⟨a1, a2, 0⟩ : S60) [.string a1, .string a2, .int .i64 0] from (k60_mkM _ _ _ (⟨a1, a2, 0⟩ : S60))) (Reps.none _ _)) HM rfl ?_; clear HM; intro v89 w88 HM; obtain ⟨Xv89, kv89, rfl⟩ := HM.rdR 8 rfl) | ((with_reducible refine gate_builtin (b := .append) (xs := #[.tmp 82, .tmp 84]) rfl ?_); refine pA 1 (.tmp 82) (.tmp 84) 23 60 k60 (.slice Xo30 x363002_2.length ko30) x363002_2 [(⟨a1, a2, 0⟩ : S60)] Xv89 ([(⟨a1, a2, 0⟩ : S60)].length) kv89 HM rfl Tryz.underlying23 info60 rfl (HM.CR 8 rfl).2.2 (by have h_ := LMc87.out; simp only [List.length_singleton]; omega) ?_; clear HM; intro v394 w90 HM; obtain ⟨Xo91, ko91, rfl⟩ := HM.rdR 1 rfl) | ((with_reducible refine gS 86 rfl ?_); refine pS 6 86 2 [.slice Xo91 (x363002_2 ++ [(⟨a1, a2, 0⟩ : S60)]).length ko91] HM rfl rfl ?_; clear HM; intro w92 HM; obtain ⟨_,_,_,_,_,_,_,_,_,_⟩ := bk5 (HM.bx 6 rfl)) | ((with_reducible refine gS 6 rfl ?_); refine pS 5 6 0 [.int .i64 x363000_2, .int .i64 x363001_2, .slice Xo91 (x363002_2 ++ [(⟨a1, a2, 0⟩ : S60)]).length ko91, .slice Xo31 x363003_2.length ko31, .slice Xo55 x363004_2.length ko55] HM rfl rfl ?_; clear HM; intro w94 HM))
         refine bodyPost_ret (results_ctt rfl _ _ gb335 26 #[.int .i64 x363000_2, .int .i64 x363001_2, .slice Xo91 (x363002_2 ++ [(⟨a1, a2, 0⟩ : S60)]).length ko91, .slice Xo31 x363003_2.length ko31, .slice Xo55 x363004_2.length ko55] (0, 0) _ rfl (HM.bx 5 rfl) Tryz.underlying26 rfl (by kernel_rfl)) rfl ?_
         exact ⟨_, _, _, _, ER, (MD HM).pick [1, 2, 3, 0]⟩
def spec_l01Of.f (s0_0 : List Int) (s0_1 : Int) (s0_2 : Int) (l1 : List ByteArray) : Option (ByteArray × Int × Int) := (spec_l01Below.f s0_0 s0_1 s0_2 (l1.length : Int)).bind fun bt401 => (if 0 ≤ bt401.1 then (if bt401.1 < (l1.length : Int) then (some (rdOf ByteArray.empty l1 bt401.1, bt401.2.1, bt401.2.2)) else (none)) else (none))
theorem spec_l01Of.calls (g : Nat) (A0_0 : Option Addr) (c0_0 : Nat) (s0_0 : List Int) (s0_1 : Int) (s0_2 : Int) (A1 : Option Addr) (c1 : Nat) (l1 : List ByteArray) (r1 : ByteArray) (r2 : Int) (r3 : Int) (w0 w : World) (F : List SP) (hrs0_0 : Kd.C (Kd.int .u8) w0 A0_0 s0_0.length s0_0) (hcs0_0 : s0_0.length ≤ c0_0) (hM : Mem w0 F w [box 43 g [.slice A0_0 s0_0.length c0_0, .int .i64 s0_1, .int .i64 s0_2], row Kd.string 9 (.slice A1 l1.length c1) l1]) (h : spec_l01Of.f s0_0 s0_1 s0_2 l1 = some (r1, r2, r3)) :
  Calls Tryz.prog 78 #[.pointer (some ⟨g, 0, none⟩), .slice A1 l1.length c1] w fun e w' => e = .returned (.string r1) ∧ Mem w0 F w' [box 43 g [.slice A0_0 s0_0.length c0_0, .int .i64 r2, .int .i64 r3], row Kd.string 9 (.slice A1 l1.length c1) l1] := by
 have HRs0_0 := Aside0.mk hrs0_0
 have HCs0_0 := Aside0.mk hcs0_0
 clear hrs0_0 hcs0_0
 have HM := hM
 clear hM
 have H := h
 clear h
 unfold spec_l01Of.f at H
 go_enter Tryz.func78, Tryz.ntmps78
 replace H := BN H; obtain ⟨⟨t401, t402, t403⟩, A3, H⟩ := H
 replace H := GD H; obtain ⟨c5, H⟩ := H
 have c5b0 : decide (0 ≤ t401) = true := decide_eq_true c5
 clear c5
 replace H := GD H; obtain ⟨c6, H⟩ := H
 have c6b0 : decide (t401 < (l1.length : Int)) = true := decide_eq_true c6
 clear c6
 simp only [Option.some.injEq, Prod.mk.injEq] at H
 obtain ⟨rfl, rfl, rfl⟩ := H
 go_wp2_with (first | ((with_reducible refine gC 30 rfl ?_); refine pC (some 9) rfl #[.pointer (some ⟨g, 0, none⟩), .int .i64 (l1.length : Int)] rfl Tryz.func30 (spec_l01Below.calls g A0_0 c0_0 s0_0 s0_1 s0_2 (l1.length : Int) t401 t402 t403 _ _ _ HRs0_0.out HCs0_0.out (HM.focus [1] [0]) A3.out) ?_; rintro e w4 ⟨rfl, hR⟩; refine ⟨_, rfl, ?_⟩; replace HM := nzM hR.unfocus; clear hR; have p404 : 0 ≤ (t401 : Int) := of_decide_eq_true AS; have q404 : (t401 : Int) < (l1.length : Int) := of_decide_eq_true AS; obtain ⟨ad404, e404, hx404_0⟩ := Kd.at_string (HM.C 0 rfl).2.2 t401 p404 q404; cases e404; replace p404 := eq_true p404; replace q404 := eq_true q404))
 go_ret
 exact ⟨ER, (MD HM).pick [1, 0]⟩
def spec_l10Key.f (s0_0 : List Int) (s0_1 : Int) (s0_2 : Int) : Option (ByteArray × Int × Int) := (spec_l01Of.f s0_0 s0_1 s0_2 (([(⟨#[97]⟩ : ByteArray), (⟨#[98]⟩ : ByteArray), (⟨#[99]⟩ : ByteArray), (⟨#[100]⟩ : ByteArray), (⟨#[101]⟩ : ByteArray), (⟨#[102]⟩ : ByteArray), (⟨#[103]⟩ : ByteArray), (⟨#[104]⟩ : ByteArray)] : List ByteArray))).bind fun bt408 => (some (bt408.1, bt408.2.1, bt408.2.2))
theorem spec_l10Key.calls (g : Nat) (A0_0 : Option Addr) (c0_0 : Nat) (s0_0 : List Int) (s0_1 : Int) (s0_2 : Int) (r1 : ByteArray) (r2 : Int) (r3 : Int) (w0 w : World) (F : List SP) (hrs0_0 : Kd.C (Kd.int .u8) w0 A0_0 s0_0.length s0_0) (hcs0_0 : s0_0.length ≤ c0_0) (hM : Mem w0 F w [box 43 g [.slice A0_0 s0_0.length c0_0, .int .i64 s0_1, .int .i64 s0_2]]) (h : spec_l10Key.f s0_0 s0_1 s0_2 = some (r1, r2, r3)) :
  Calls Tryz.prog 49 #[.pointer (some ⟨g, 0, none⟩)] w fun e w' => e = .returned (.string r1) ∧ Mem w0 F w' [box 43 g [.slice A0_0 s0_0.length c0_0, .int .i64 r2, .int .i64 r3]] := by
 have HRs0_0 := Aside0.mk hrs0_0
 have HCs0_0 := Aside0.mk hcs0_0
 clear hrs0_0 hcs0_0
 have HM := hM
 clear hM
 have H := h
 clear h
 unfold spec_l10Key.f at H
 go_enter Tryz.func49, Tryz.ntmps49
 replace H := BN H; obtain ⟨⟨t408, t409, t410⟩, A3, H⟩ := H
 simp only [Option.some.injEq, Prod.mk.injEq] at H
 obtain ⟨rfl, rfl, rfl⟩ := H
 go_wp2_with (first | ((with_reducible refine gN 4 rfl ?_); refine pL 4 Kd.string 9 ([(⟨#[97]⟩ : ByteArray), (⟨#[98]⟩ : ByteArray), (⟨#[99]⟩ : ByteArray), (⟨#[100]⟩ : ByteArray), (⟨#[101]⟩ : ByteArray), (⟨#[102]⟩ : ByteArray), (⟨#[103]⟩ : ByteArray), (⟨#[104]⟩ : ByteArray)] : List ByteArray) [.string (⟨#[97]⟩ : ByteArray), .string (⟨#[98]⟩ : ByteArray), .string (⟨#[99]⟩ : ByteArray), .string (⟨#[100]⟩ : ByteArray), .string (⟨#[101]⟩ : ByteArray), .string (⟨#[102]⟩ : ByteArray), .string (⟨#[103]⟩ : ByteArray), .string (⟨#[104]⟩ : ByteArray)] (Reps.one (show Kd.M Kd.string _ _ _ (⟨#[97]⟩ : ByteArray) [.string (⟨#[97]⟩ : ByteArray)] from rfl) (Reps.one (show Kd.M Kd.string _ _ _ (⟨#[98]⟩ : ByteArray) [.string (⟨#[98]⟩ : ByteArray)] from rfl) (Reps.one (show Kd.M Kd.string _ _ _ (⟨#[99]⟩ : ByteArray) [.string (⟨#[99]⟩ : ByteArray)] from rfl) (Reps.one (show Kd.M Kd.string _ _ _ (⟨#[100]⟩ : ByteArray) [.string (⟨#[100]⟩ : ByteArray)] from rfl) (Reps.one (show Kd.M Kd.string _ _ _ (⟨#[101]⟩ : ByteArray) [.string (⟨#[101]⟩ : ByteArray)] from rfl) (Reps.one (show Kd.M Kd.string _ _ _ (⟨#[102]⟩ : ByteArray) [.string (⟨#[102]⟩ : ByteArray)] from rfl) (Reps.one (show Kd.M Kd.string _ _ _ (⟨#[103]⟩ : ByteArray) [.string (⟨#[103]⟩ : ByteArray)] from rfl) (Reps.one (show Kd.M Kd.string _ _ _ (⟨#[104]⟩ : ByteArray) [.string (⟨#[104]⟩ : ByteArray)] from rfl) (Reps.none _ _))))))))) HM rfl ?_; clear HM; intro v406 w2 HM; obtain ⟨Xo5, ko5, rfl⟩ := HM.rdR 1 rfl; replace HM := HM.toQ 1 rfl) | ((with_reducible refine gC 78 rfl ?_); refine pC (some 5) rfl #[.pointer (some ⟨g, 0, none⟩), .slice Xo5 (([(⟨#[97]⟩ : ByteArray), (⟨#[98]⟩ : ByteArray), (⟨#[99]⟩ : ByteArray), (⟨#[100]⟩ : ByteArray), (⟨#[101]⟩ : ByteArray), (⟨#[102]⟩ : ByteArray), (⟨#[103]⟩ : ByteArray), (⟨#[104]⟩ : ByteArray)] : List ByteArray)).length ko5] rfl Tryz.func78 (spec_l01Of.calls g A0_0 c0_0 s0_0 s0_1 s0_2 Xo5 ko5 (([(⟨#[97]⟩ : ByteArray), (⟨#[98]⟩ : ByteArray), (⟨#[99]⟩ : ByteArray), (⟨#[100]⟩ : ByteArray), (⟨#[101]⟩ : ByteArray), (⟨#[102]⟩ : ByteArray), (⟨#[103]⟩ : ByteArray), (⟨#[104]⟩ : ByteArray)] : List ByteArray)) t408 t409 t410 _ _ _ HRs0_0.out HCs0_0.out (HM.focus [] [0, 1]) A3.out) ?_; rintro e w4 ⟨rfl, hR⟩; refine ⟨_, rfl, ?_⟩; replace HM := nzM hR.unfocus; clear hR))
 go_ret
 exact ⟨ER, (MD HM).pick [0]⟩
def spec_l10Val.f (s0_0 : List Int) (s0_1 : Int) (s0_2 : Int) : Option (ByteArray × Int × Int) := (spec_l01Of.f s0_0 s0_1 s0_2 (([(⟨#[49]⟩ : ByteArray), (⟨#[50]⟩ : ByteArray), (⟨#[51]⟩ : ByteArray), (⟨#[]⟩ : ByteArray), (⟨#[120]⟩ : ByteArray)] : List ByteArray))).bind fun bt414 => (some (bt414.1, bt414.2.1, bt414.2.2))
theorem spec_l10Val.calls (g : Nat) (A0_0 : Option Addr) (c0_0 : Nat) (s0_0 : List Int) (s0_1 : Int) (s0_2 : Int) (r1 : ByteArray) (r2 : Int) (r3 : Int) (w0 w : World) (F : List SP) (hrs0_0 : Kd.C (Kd.int .u8) w0 A0_0 s0_0.length s0_0) (hcs0_0 : s0_0.length ≤ c0_0) (hM : Mem w0 F w [box 43 g [.slice A0_0 s0_0.length c0_0, .int .i64 s0_1, .int .i64 s0_2]]) (h : spec_l10Val.f s0_0 s0_1 s0_2 = some (r1, r2, r3)) :
  Calls Tryz.prog 50 #[.pointer (some ⟨g, 0, none⟩)] w fun e w' => e = .returned (.string r1) ∧ Mem w0 F w' [box 43 g [.slice A0_0 s0_0.length c0_0, .int .i64 r2, .int .i64 r3]] := by
 have HRs0_0 := Aside0.mk hrs0_0
 have HCs0_0 := Aside0.mk hcs0_0
 clear hrs0_0 hcs0_0
 have HM := hM
 clear hM
 have H := h
 clear h
 unfold spec_l10Val.f at H
 go_enter Tryz.func50, Tryz.ntmps50
 replace H := BN H; obtain ⟨⟨t414, t415, t416⟩, A3, H⟩ := H
 simp only [Option.some.injEq, Prod.mk.injEq] at H
 obtain ⟨rfl, rfl, rfl⟩ := H
 go_wp2_with (first | ((with_reducible refine gN 4 rfl ?_); refine pL 4 Kd.string 9 ([(⟨#[49]⟩ : ByteArray), (⟨#[50]⟩ : ByteArray), (⟨#[51]⟩ : ByteArray), (⟨#[]⟩ : ByteArray), (⟨#[120]⟩ : ByteArray)] : List ByteArray) [.string (⟨#[49]⟩ : ByteArray), .string (⟨#[50]⟩ : ByteArray), .string (⟨#[51]⟩ : ByteArray), .string (⟨#[]⟩ : ByteArray), .string (⟨#[120]⟩ : ByteArray)] (Reps.one (show Kd.M Kd.string _ _ _ (⟨#[49]⟩ : ByteArray) [.string (⟨#[49]⟩ : ByteArray)] from rfl) (Reps.one (show Kd.M Kd.string _ _ _ (⟨#[50]⟩ : ByteArray) [.string (⟨#[50]⟩ : ByteArray)] from rfl) (Reps.one (show Kd.M Kd.string _ _ _ (⟨#[51]⟩ : ByteArray) [.string (⟨#[51]⟩ : ByteArray)] from rfl) (Reps.one (show Kd.M Kd.string _ _ _ (⟨#[]⟩ : ByteArray) [.string (⟨#[]⟩ : ByteArray)] from rfl) (Reps.one (show Kd.M Kd.string _ _ _ (⟨#[120]⟩ : ByteArray) [.string (⟨#[120]⟩ : ByteArray)] from rfl) (Reps.none _ _)))))) HM rfl ?_; clear HM; intro v412 w2 HM; obtain ⟨Xo5, ko5, rfl⟩ := HM.rdR 1 rfl; replace HM := HM.toQ 1 rfl) | ((with_reducible refine gC 78 rfl ?_); refine pC (some 5) rfl #[.pointer (some ⟨g, 0, none⟩), .slice Xo5 (([(⟨#[49]⟩ : ByteArray), (⟨#[50]⟩ : ByteArray), (⟨#[51]⟩ : ByteArray), (⟨#[]⟩ : ByteArray), (⟨#[120]⟩ : ByteArray)] : List ByteArray)).length ko5] rfl Tryz.func78 (spec_l01Of.calls g A0_0 c0_0 s0_0 s0_1 s0_2 Xo5 ko5 (([(⟨#[49]⟩ : ByteArray), (⟨#[50]⟩ : ByteArray), (⟨#[51]⟩ : ByteArray), (⟨#[]⟩ : ByteArray), (⟨#[120]⟩ : ByteArray)] : List ByteArray)) t414 t415 t416 _ _ _ HRs0_0.out HCs0_0.out (HM.focus [] [0, 1]) A3.out) ?_; rintro e w4 ⟨rfl, hR⟩; refine ⟨_, rfl, ?_⟩; replace HM := nzM hR.unfocus; clear hR))
 go_ret
 exact ⟨ER, (MD HM).pick [0]⟩
def spec_Get.f (k : Nat) (a0_0 : Int) (a0_1 : Int) (l0_2 : List (S60)) (l0_3 : List (S60)) (l0_4 : List Int) (a1 : ByteArray) : Option (Int × Int × (List (S60)) × (List (S60)) × List Int × ByteArray × Bool) := (spec_ThreeOk.f k a0_0 a0_1 l0_2 l0_3 l0_4).bind fun t419 => (if t419 = true then ((spec_l10Copy.f a0_0 a0_1 l0_2 l0_3 l0_4).bind fun bt420 => ((spec_l10Touch.f k bt420.1 bt420.2.1 bt420.2.2.1 bt420.2.2.2.1 bt420.2.2.2.2 a1 false (⟨#[]⟩ : ByteArray)).bind fun bt431 => (some (bt431.1, bt431.2.1, bt431.2.2.1, bt431.2.2.2.1, bt431.2.2.2.2.1, bt431.2.2.2.2.2.1, bt431.2.2.2.2.2.2)))) else (some (0, 0, ([] : List (S60)), ([] : List (S60)), ([] : List Int), (⟨#[]⟩ : ByteArray), false)))
theorem spec_Get.calls (k : Nat) (a0_0 : Int) (a0_1 : Int) (A0_2 : Option Addr) (c0_2 : Nat) (l0_2 : List (S60)) (A0_3 : Option Addr) (c0_3 : Nat) (l0_3 : List (S60)) (A0_4 : Option Addr) (c0_4 : Nat) (l0_4 : List Int) (a1 : ByteArray) (r1 : Int) (r2 : Int) (r3 : List (S60)) (r4 : List (S60)) (r5 : List Int) (r6 : ByteArray) (r7 : Bool) (w : World) (hr0_2 : Kd.C k60 w A0_2 l0_2.length l0_2) (hc0_2 : l0_2.length ≤ c0_2) (hr0_3 : Kd.C k60 w A0_3 l0_3.length l0_3) (hc0_3 : l0_3.length ≤ c0_3) (hr0_4 : Kd.C (Kd.int .i64) w A0_4 l0_4.length l0_4) (hc0_4 : l0_4.length ≤ c0_4) (h : spec_Get.f k a0_0 a0_1 l0_2 l0_3 l0_4 a1 = some (r1, r2, r3, r4, r5, r6, r7)) :
  Calls Tryz.prog 51 #[.agg #[.int .i64 a0_0, .int .i64 a0_1, .slice A0_2 l0_2.length c0_2, .slice A0_3 l0_3.length c0_3, .slice A0_4 l0_4.length c0_4], .string a1] w fun e w' => ∃ v2_ v3_ v4_ : Value, e = .returned (.tuple #[.agg #[.int .i64 r1, .int .i64 r2, v2_, v3_, v4_], .string r6, .bool r7]) ∧ Mem w [] w' [rowR k60 60 v2_ r3, rowR k60 60 v3_ r4, rowR (Kd.int .i64) 3 v4_ r5] := by
 have hu26 := Tryz.underlying26
 have HR0_2 := Aside0.mk hr0_2
 have HC0_2 := Aside0.mk hc0_2
 clear hr0_2 hc0_2
 have HR0_3 := Aside0.mk hr0_3
 have HC0_3 := Aside0.mk hc0_3
 clear hr0_3 hc0_3
 have HR0_4 := Aside0.mk hr0_4
 have HC0_4 := Aside0.mk hc0_4
 clear hr0_4 hc0_4
 have HM := Mem.nil w
 have H := h
 clear h
 unfold spec_Get.f at H
 go_enter Tryz.func51, Tryz.ntmps51
 replace H := BN H; obtain ⟨t419, A6, H⟩ := H
 go_upto_if 9 with (first | ((with_reducible refine gN 2 rfl ?_); refine pB 2 26 [.int .i64 a0_0, .int .i64 a0_1, .slice A0_2 l0_2.length c0_2, .slice A0_3 l0_3.length c0_3, .slice A0_4 l0_4.length c0_4] HM rfl ?_; clear HM; intro gb417 w3 HM) | ((with_reducible refine gN 4 rfl ?_); refine pB 4 26 [.int .i64 0, .int .i64 0, .slice none 0 0, .slice none 0 0, .slice none 0 0] HM rfl ?_; clear HM; intro gb418 w4 HM; obtain ⟨_,_,_,_,_,_,_,_,_,_⟩ := bk5 (HM.bx 0 rfl)) | ((with_reducible refine gC 47 rfl ?_); refine pC (some 8) rfl #[.agg #[.int .i64 a0_0, .int .i64 a0_1, .slice A0_2 l0_2.length c0_2, .slice A0_3 l0_3.length c0_3, .slice A0_4 l0_4.length c0_4]] rfl Tryz.func47 (spec_ThreeOk.calls k a0_0 a0_1 _ _ l0_2 _ _ l0_3 _ _ l0_4 t419 _ (HM.came HR0_2.out) HC0_2.out (HM.came HR0_3.out) HC0_3.out (HM.came HR0_4.out) HC0_4.out A6.out) ?_; rintro e w7 ⟨rfl, hR⟩; refine ⟨_, rfl, ?_⟩; replace HM := HM.call hR; clear hR))
 replace HM := nzM HM
 replace H := IB H
 rcases H with ⟨c8, H⟩ | ⟨c8, H⟩
 ·subst c8
  replace H := BN H; obtain ⟨⟨t420, t421, t422, t425, t428⟩, A10, H⟩ := H
  replace H := BN H; obtain ⟨⟨t431, t432, t433, t436, t439, t442, t443⟩, A12, H⟩ := H
  simp only [Option.some.injEq, Prod.mk.injEq] at H
  obtain ⟨rfl, rfl, rfl, rfl, rfl, rfl, rfl⟩ := H
  obtain ⟨_,_,_,_,_,_,_,_,_,_⟩ := bk5 (HM.bx 0 rfl)
  go_wp2_with (first | ((with_reducible refine gC 74 rfl ?_); refine pC (some 12) rfl #[.agg #[.int .i64 a0_0, .int .i64 a0_1, .slice A0_2 l0_2.length c0_2, .slice A0_3 l0_3.length c0_3, .slice A0_4 l0_4.length c0_4]] rfl Tryz.func74 (spec_l10Copy.calls a0_0 a0_1 _ _ l0_2 _ _ l0_3 _ _ l0_4 t420 t421 t422 t425 t428 _ (HM.came HR0_2.out) HC0_2.out (HM.came HR0_3.out) HC0_3.out (HM.came HR0_4.out) HC0_4.out A10.out) ?_; rintro e w11 ⟨v423, v426, v429, rfl, hR⟩; refine ⟨_, rfl, ?_⟩; replace HM := HM.call hR; clear hR) | ((with_reducible refine gC 73 rfl ?_); refine pC (some 14) rfl #[.agg #[.int .i64 t420, .int .i64 t421, v423, v426, v429], .string a1, .bool false, .string (⟨#[]⟩ : ByteArray)] rfl Tryz.func73 (spec_l10Touch.calls k t420 t421 v423 t422 v426 t425 v429 t428 a1 false (⟨#[]⟩ : ByteArray) t431 t432 t433 t436 t439 t442 t443 _ _ _ (HM.focus [0, 1] [2, 3, 4]) A12.out) ?_; rintro e w13 ⟨v434, v437, v440, rfl, hR⟩; refine ⟨_, rfl, ?_⟩; replace HM := nzM hR.unfocus; clear hR; obtain ⟨Xo14, ko14, rfl⟩ := HM.rdR 2 rfl; obtain ⟨Xo15, ko15, rfl⟩ := HM.rdR 3 rfl; obtain ⟨Xo16, ko16, rfl⟩ := HM.rdR 4 rfl) | ((with_reducible refine gS 4 rfl ?_); refine pS 1 4 0 [.int .i64 t431, .int .i64 t432, .slice Xo14 t433.length ko14, .slice Xo15 t436.length ko15, .slice Xo16 t439.length ko16] HM rfl rfl ?_; clear HM; intro w17 HM))
  refine bodyPost_ret (results_ctt rfl _ _ gb418 26 #[.int .i64 t431, .int .i64 t432, .slice Xo14 t433.length ko14, .slice Xo15 t436.length ko15, .slice Xo16 t439.length ko16] (0, 0) _ rfl (HM.bx 1 rfl) Tryz.underlying26 rfl (by kernel_rfl)) rfl ?_
  exact ⟨_, _, _, ER, (MD HM).pick [2, 3, 4]⟩
 ·subst c8
  simp only [Option.some.injEq, Prod.mk.injEq] at H
  obtain ⟨rfl, rfl, rfl, rfl, rfl, rfl, rfl⟩ := H
  go_wp2_with (first | ((with_reducible refine gS 4 rfl ?_); refine pS 1 4 0 [.int .i64 0, .int .i64 0, .slice none 0 0, .slice none 0 0, .slice none 0 0] HM rfl rfl ?_; clear HM; intro w18 HM; replace HM := HM.nl k60 60; replace HM := HM.nl k60 60; replace HM := HM.nl (Kd.int .i64) 3))
  refine bodyPost_ret (results_ctt rfl _ _ gb418 26 #[.int .i64 0, .int .i64 0, .slice none 0 0, .slice none 0 0, .slice none 0 0] (0, 0) _ rfl (HM.bx 1 rfl) Tryz.underlying26 rfl (by kernel_rfl)) rfl ?_
  exact ⟨_, _, _, ER, (MD HM).pick [2, 3, 4]⟩
def spec_l10Without.l0 : Nat → ByteArray → List (S60) → List (S60) → Int → Int → Option ((List (S60)))
 | 0, _, _, _, _, _ => none
 | k + 1, x1, x5, x9, x10, x11 => if x11 < x10 then (if 0 ≤ x11 then (if x11 < (x9.length : Int) then (if ((rd_T60 x9 x11).f0).toList = x1.toList then (spec_l10Without.l0 k x1 x5 x9 x10 (wrap64 (x11 + 1))) else (if x5.length < 3518437208883 then (spec_l10Without.l0 k x1 (x5 ++ [(⟨(rd_T60 x9 x11).f0, (rd_T60 x9 x11).f1, (rd_T60 x9 x11).f2⟩ : S60)]) x9 x10 (wrap64 (x11 + 1))) else (none))) else (none)) else (none)) else (some x5)
def spec_l10Without.f (k : Nat) (l0 : List (S60)) (a1 : ByteArray) : Option ((List (S60))) := spec_l10Without.l0 k a1 (([] : List (S60))) l0 (l0.length : Int) 0
theorem spec_l10Without.calls (k : Nat) (A0 : Option Addr) (c0 : Nat) (l0 : List (S60)) (a1 : ByteArray) (r : List (S60)) (w : World) (hr0 : Kd.C k60 w A0 l0.length l0) (hc0 : l0.length ≤ c0) (h : spec_l10Without.f k l0 a1 = some r) :
  Calls Tryz.prog 79 #[.slice A0 l0.length c0, .string a1] w fun e w' => ∃ v0_ : Value, e = .returned (v0_) ∧ Mem w [] w' [rowR k60 60 v0_ r] := by
 have hu60 := Tryz.underlying60
 have HR0 := Aside0.mk hr0
 have HC0 := Aside0.mk hc0
 clear hr0 hc0
 have HM := Mem.nil w
 have H := h
 clear h
 unfold spec_l10Without.f at H
 go_enter Tryz.func79, Tryz.ntmps79
 have H' := Aside0.mk H
 clear H
 go_wp2_with (first | ((with_reducible refine gN 8 rfl ?_); refine pL 8 k60 60 ([] : List (S60)) [] (Reps.none _ _) HM rfl ?_; clear HM; intro v448 w3 HM))
 go_loopg [5, 11] k (fun kq v5 v11 w' => ∃ (x5_1 : List (S60)) (x11_1 : Int), v11 = .int .i64 x11_1 ∧ Aside0 (spec_l10Without.l0 kq a1 x5_1 l0 (l0.length : Int) x11_1 = some r) ∧ Aside0 (kq ≤ k) ∧ Mem w [] w' [rowR k60 60 v5 x5_1])
 case atStart => exact ⟨((([] : List (S60)))), (0), RS, H', ⟨Nat.le_refl _⟩, (MD HM).pick [0]⟩
 case round =>
  clear H' HM
  obtain ⟨x5_1, x11_1, rfl, HA, HK1, HM⟩ := hrel
  cases gk with
  | zero => exact absurd HA.out (by simp [spec_l10Without.l0])
  | succ k1 =>
   have H := HA.out
   clear HA
   simp only [spec_l10Without.l0] at H
   go_upto_if 12 with (fail)
   replace H := IT H; rcases H with ⟨c4, H⟩ | ⟨c4, H⟩
   ·have c4b0 := decide_eq_true c4
    clear c4
    first|rw [c4b0]|(simp only [i64_w, i32_w]; rw [c4b0])|skip
    replace H := GD H; obtain ⟨c5, H⟩ := H
    have c5b0 := decide_eq_true c5
    clear c5
    replace H := GD H; obtain ⟨c6, H⟩ := H
    have c6b0 := decide_eq_true c6
    clear c6
    have p450 : 0 ≤ (x11_1 : Int) := of_decide_eq_true AS
    have q450 : (x11_1 : Int) < (l0.length : Int) := of_decide_eq_true AS
    obtain ⟨ad450, e450, hx450_0, hx450_1, hx450_2⟩ := at_T60 (HM.came HR0.out) x11_1 p450 q450
    cases e450
    replace p450 := eq_true p450
    replace q450 := eq_true q450
    go_upto_if 18 with (first | ((with_reducible refine gN 7 rfl ?_); refine pB 7 60 [.string (⟨#[]⟩ : ByteArray), .string (⟨#[]⟩ : ByteArray), .int .i64 0] HM rfl ?_; clear HM; intro gb451 w7 HM) | ((with_reducible refine gS 7 rfl ?_); refine pS 1 7 0 [.string ((rd_T60 l0 x11_1).f0), .string ((rd_T60 l0 x11_1).f1), .int .i64 ((rd_T60 l0 x11_1).f2)] HM rfl rfl ?_; clear HM; intro w8 HM; obtain ⟨_,_,_,_,_,_⟩ := bk3 (HM.bx 1 rfl)))
    replace HM := nzM HM
    replace H := IT H; rcases H with ⟨c10, H⟩ | ⟨c10, H⟩
    ·obtain ⟨c10b0, c10b1⟩ := BE c10
     clear c10
     first|rw [c10b0]|(simp only [i64_w, i32_w]; rw [c10b0])|skip
     have H' := Aside0.mk H
     clear H
     go_wp2
     go_roundg k1
     case measure => have := HK1.out; omega
     case rel => exact ⟨(x5_1), (wrap64 (x11_1 + 1)), RS, H', ⟨by have := HK1.out; omega⟩, (MD HM).pick [0]⟩
    ·obtain ⟨c10b0, c10b1⟩ := BF c10
     first|rw [c10b0]|(simp only [i64_w, i32_w]; rw [c10b0])|skip
     replace H := GD H; obtain ⟨c11, H⟩ := H
     have LMc11 := Aside0.mk c11
     clear c11
     have H' := Aside0.mk H
     clear H
     go_wp2_with (first | ((with_reducible refine gN 21 rfl ?_); refine pL 21 k60 60 [(⟨(rd_T60 l0 x11_1).f0, (rd_T60 l0 x11_1).f1, (rd_T60 l0 x11_1).f2⟩ : S60)] [.string ((rd_T60 l0 x11_1).f0), .string ((rd_T60 l0 x11_1).f1), .int .i64 ((rd_T60 l0 x11_1).f2)] (Reps.c3 (show Kd.M k60 _ _ _ (⟨(rd_T60 l0 x11_1).f0, (rd_T60 l0 x11_1).f1, (rd_T60 l0 x11_1).f2⟩ : S60) [.string ((rd_T60 l0 x11_1).f0), .string ((rd_T60 l0 x11_1).f1), .int .i64 ((rd_T60 l0 x11_1).f2)] from (k60_mkM _ _ _ (⟨(rd_T60 l0 x11_1).f0, (rd_T60 l0 x11_1).f1, (rd_T60 l0 x11_1).f2⟩ : S60))) (Reps.none _ _)) HM rfl ?_; clear HM; intro v13 w12 HM; obtain ⟨Xv13, kv13, rfl⟩ := HM.rdR 2 rfl) | ((with_reducible refine gate_builtin (b := .append) (xs := #[.tmp 19, .tmp 21]) rfl ?_); refine pA 0 (.tmp 19) (.tmp 21) 23 60 k60 u5 x5_1 [(⟨(rd_T60 l0 x11_1).f0, (rd_T60 l0 x11_1).f1, (rd_T60 l0 x11_1).f2⟩ : S60)] Xv13 ([(⟨(rd_T60 l0 x11_1).f0, (rd_T60 l0 x11_1).f1, (rd_T60 l0 x11_1).f2⟩ : S60)].length) kv13 HM rfl Tryz.underlying23 info60 rfl (HM.CR 2 rfl).2.2 (by have h_ := LMc11.out; simp only [List.length_singleton]; omega) ?_; clear HM; intro v453 w14 HM))
     go_roundg k1
     case measure => have := HK1.out; omega
     case rel => exact ⟨((x5_1 ++ [(⟨(rd_T60 l0 x11_1).f0, (rd_T60 l0 x11_1).f1, (rd_T60 l0 x11_1).f2⟩ : S60)])), (wrap64 (x11_1 + 1)), RS, H', ⟨by have := HK1.out; omega⟩, (MD HM).pick [0]⟩
   ·have c4b0 := decide_eq_false c4
    clear c4
    first|rw [c4b0]|(simp only [i64_w, i32_w]; rw [c4b0])|skip
    obtain rfl := Option.some.inj H
    go_wp2
    go_ret
    exact ⟨_, ER, (MD HM).pick [0]⟩
def spec_Drop.f (k : Nat) (a0_0 : Int) (a0_1 : Int) (l0_2 : List (S60)) (l0_3 : List (S60)) (l0_4 : List Int) (a1 : ByteArray) : Option (Int × Int × (List (S60)) × (List (S60)) × List Int × Bool) := (spec_ThreeOk.f k a0_0 a0_1 l0_2 l0_3 l0_4).bind fun t457 => (if t457 = true then ((spec_l10Copy.f a0_0 a0_1 l0_2 l0_3 l0_4).bind fun bt458 => ((spec_l10Without.f k bt458.2.2.1 a1).bind fun t470 => ((spec_l10Without.f k bt458.2.2.2.1 a1).bind fun t473 => (some (bt458.1, bt458.2.1, t470, t473, bt458.2.2.2.2, decide ((wrap64 ((t470.length : Int) + (t473.length : Int))) < (wrap64 ((l0_2.length : Int) + (l0_3.length : Int))))))))) else (some (0, 0, ([] : List (S60)), ([] : List (S60)), ([] : List Int), false)))
def spec_Drop.T6 : Bool × List (List Nat × List Nat) := (true, [([], []), ([], []), ([1], [1]), ([2], [2]), ([], []), ([4], [4]), ([5], [5]), ([3, 6], [3, 6]), ([], []), ([8], [8]), ([9], [9]), ([], []), ([11], [11]), ([12], [12]), ([10, 13], [10, 13]), ([7, 14], [7, 14]), ([0, 0], [0]), ([15, 16, 0, 1, 2, 3, 4, 5, 6, 7, 8, 9, 10, 11, 12, 13, 14, 15, 16], [15])])
def spec_Drop.B6 : List Nat := [0, 0, 2, 6, 0, 16, 48, 126, 0, 256, 768, 0, 2048, 6144, 16128, 32766, 1, 131071]
theorem spec_Drop.tab6 : rtab .any (opsOf Tryz.f52 6) = spec_Drop.T6 := by kernel_rfl
theorem spec_Drop.bits6 : waitsOk spec_Drop.T6.2 spec_Drop.B6 = true := by kernel_rfl
theorem spec_Drop.calls (k : Nat) (a0_0 : Int) (a0_1 : Int) (A0_2 : Option Addr) (c0_2 : Nat) (l0_2 : List (S60)) (A0_3 : Option Addr) (c0_3 : Nat) (l0_3 : List (S60)) (A0_4 : Option Addr) (c0_4 : Nat) (l0_4 : List Int) (a1 : ByteArray) (r1 : Int) (r2 : Int) (r3 : List (S60)) (r4 : List (S60)) (r5 : List Int) (r6 : Bool) (w : World) (hr0_2 : Kd.C k60 w A0_2 l0_2.length l0_2) (hc0_2 : l0_2.length ≤ c0_2) (hr0_3 : Kd.C k60 w A0_3 l0_3.length l0_3) (hc0_3 : l0_3.length ≤ c0_3) (hr0_4 : Kd.C (Kd.int .i64) w A0_4 l0_4.length l0_4) (hc0_4 : l0_4.length ≤ c0_4) (h : spec_Drop.f k a0_0 a0_1 l0_2 l0_3 l0_4 a1 = some (r1, r2, r3, r4, r5, r6)) :
  Calls Tryz.prog 52 #[.agg #[.int .i64 a0_0, .int .i64 a0_1, .slice A0_2 l0_2.length c0_2, .slice A0_3 l0_3.length c0_3, .slice A0_4 l0_4.length c0_4], .string a1] w fun e w' => ∃ v2_ v3_ v4_ : Value, e = .returned (.tuple #[.agg #[.int .i64 r1, .int .i64 r2, v2_, v3_, v4_], .bool r6]) ∧ Mem w [] w' [rowR k60 60 v2_ r3, rowR k60 60 v3_ r4, rowR (Kd.int .i64) 3 v4_ r5] := by
 have hu26 := Tryz.underlying26
 have HR0_2 := Aside0.mk hr0_2
 have HC0_2 := Aside0.mk hc0_2
 clear hr0_2 hc0_2
 have HR0_3 := Aside0.mk hr0_3
 have HC0_3 := Aside0.mk hc0_3
 clear hr0_3 hc0_3
 have HR0_4 := Aside0.mk hr0_4
 have HC0_4 := Aside0.mk hc0_4
 clear hr0_4 hc0_4
 have HM := Mem.nil w
 have H := h
 clear h
 unfold spec_Drop.f at H
 go_enter Tryz.func52, Tryz.ntmps52
 replace H := BN H; obtain ⟨t457, A6, H⟩ := H
 go_upto_if 9 with (first | ((with_reducible refine gN 2 rfl ?_); refine pB 2 26 [.int .i64 a0_0, .int .i64 a0_1, .slice A0_2 l0_2.length c0_2, .slice A0_3 l0_3.length c0_3, .slice A0_4 l0_4.length c0_4] HM rfl ?_; clear HM; intro gb455 w3 HM) | ((with_reducible refine gN 4 rfl ?_); refine pB 4 26 [.int .i64 0, .int .i64 0, .slice none 0 0, .slice none 0 0, .slice none 0 0] HM rfl ?_; clear HM; intro gb456 w4 HM; obtain ⟨_,_,_,_,_,_,_,_,_,_⟩ := bk5 (HM.bx 0 rfl)) | ((with_reducible refine gC 47 rfl ?_); refine pC (some 8) rfl #[.agg #[.int .i64 a0_0, .int .i64 a0_1, .slice A0_2 l0_2.length c0_2, .slice A0_3 l0_3.length c0_3, .slice A0_4 l0_4.length c0_4]] rfl Tryz.func47 (spec_ThreeOk.calls k a0_0 a0_1 _ _ l0_2 _ _ l0_3 _ _ l0_4 t457 _ (HM.came HR0_2.out) HC0_2.out (HM.came HR0_3.out) HC0_3.out (HM.came HR0_4.out) HC0_4.out A6.out) ?_; rintro e w7 ⟨rfl, hR⟩; refine ⟨_, rfl, ?_⟩; replace HM := HM.call hR; clear hR))
 replace HM := nzM HM
 replace H := IB H
 rcases H with ⟨c8, H⟩ | ⟨c8, H⟩
 ·subst c8
  replace H := BN H; obtain ⟨⟨t458, t459, t460, t463, t466⟩, A10, H⟩ := H
  replace H := BN H; obtain ⟨t470, A18, H⟩ := H
  replace H := BN H; obtain ⟨t473, A23, H⟩ := H
  obtain ⟨_,_,_,_,_,_,_,_,_,_⟩ := bk5 (HM.bx 0 rfl)
  try go_wp2_with (first | ((with_reducible refine gC 74 rfl ?_); refine pC (some 12) rfl #[.agg #[.int .i64 a0_0, .int .i64 a0_1, .slice A0_2 l0_2.length c0_2, .slice A0_3 l0_3.length c0_3, .slice A0_4 l0_4.length c0_4]] rfl Tryz.func74 (spec_l10Copy.calls a0_0 a0_1 _ _ l0_2 _ _ l0_3 _ _ l0_4 t458 t459 t460 t463 t466 _ (HM.came HR0_2.out) HC0_2.out (HM.came HR0_3.out) HC0_3.out (HM.came HR0_4.out) HC0_4.out A10.out) ?_; rintro e w11 ⟨v461, v464, v467, rfl, hR⟩; refine ⟨_, rfl, ?_⟩; replace HM := HM.call hR; clear hR) | ((with_reducible refine gN 6 rfl ?_); refine pB 6 26 [.int .i64 0, .int .i64 0, .slice none 0 0, .slice none 0 0, .slice none 0 0] HM rfl ?_; clear HM; intro gb469 w12 HM; obtain ⟨Xo13, ko13, rfl⟩ := HM.rdR 2 rfl; obtain ⟨Xo14, ko14, rfl⟩ := HM.rdR 3 rfl; obtain ⟨Xo15, ko15, rfl⟩ := HM.rdR 4 rfl) | ((with_reducible refine gS 6 rfl ?_); refine pS 5 6 0 [.int .i64 t458, .int .i64 t459, .slice Xo13 t460.length ko13, .slice Xo14 t463.length ko14, .slice Xo15 t466.length ko15] HM rfl rfl ?_; clear HM; intro w16 HM; obtain ⟨_,_,_,_,_,_,_,_,_,_⟩ := bk5 (HM.bx 5 rfl)) | ((with_reducible refine gC 79 rfl ?_); refine pC (some 16) rfl #[.slice Xo13 t460.length ko13, .string a1] rfl Tryz.func79 (spec_l10Without.calls k _ _ t460 a1 t470 _ (HM.CR 2 rfl).2.2 (HM.CR 2 rfl).2.1 A18.out) ?_; rintro e w19 ⟨v471, rfl, hR⟩; refine ⟨_, rfl, ?_⟩; replace HM := HM.call hR; clear hR; obtain ⟨Xo20, ko20, rfl⟩ := HM.rdR 6 rfl) | ((with_reducible refine gS 17 rfl ?_); refine pS 5 17 2 [.slice Xo20 t470.length ko20] HM rfl rfl ?_; clear HM; intro w21 HM; obtain ⟨_,_,_,_,_,_,_,_,_,_⟩ := bk5 (HM.bx 5 rfl)) | ((with_reducible refine gC 79 rfl ?_); refine pC (some 21) rfl #[.slice Xo14 t463.length ko14, .string a1] rfl Tryz.func79 (spec_l10Without.calls k _ _ t463 a1 t473 _ (HM.CR 3 rfl).2.2 (HM.CR 3 rfl).2.1 A23.out) ?_; rintro e w24 ⟨v474, rfl, hR⟩; refine ⟨_, rfl, ?_⟩; replace HM := HM.call hR; clear hR; obtain ⟨Xo25, ko25, rfl⟩ := HM.rdR 7 rfl) | ((with_reducible refine gS 22 rfl ?_); refine pS 5 22 3 [.slice Xo25 t473.length ko25] HM rfl rfl ?_; clear HM; intro w26 HM))
  refine RGN 18 [0, 1, 2, 3, 4, 5, 6, 7, 8, 9, 10, 11, 12, 13, 14, 15, 16, 17] (fun a0 b a w' => a = putSel a0 b [(0, 23, .agg #[.int .i64 t458, .int .i64 t459, .slice Xo20 t470.length ko20, .slice Xo25 t473.length ko25, .slice Xo15 t466.length ko15]), (1, 24, .pointer (some ⟨gb469, 2, none⟩)), (2, 25, .slice Xo20 t470.length ko20), (3, 26, .int .i64 (t470.length : Int)), (4, 27, .pointer (some ⟨gb469, 3, none⟩)), (5, 28, .slice Xo25 t473.length ko25), (6, 29, .int .i64 (t473.length : Int)), (7, 30, .int .i64 (wrap64 ((t470.length : Int) + (t473.length : Int)))), (8, 31, .pointer (some ⟨gb455, 2, none⟩)), (9, 32, .slice A0_2 l0_2.length c0_2), (10, 33, .int .i64 (l0_2.length : Int)), (11, 34, .pointer (some ⟨gb455, 3, none⟩)), (12, 35, .slice A0_3 l0_3.length c0_3), (13, 36, .int .i64 (l0_3.length : Int)), (14, 37, .int .i64 (wrap64 ((l0_2.length : Int) + (l0_3.length : Int)))), (15, 38, .bool (decide ((wrap64 ((t470.length : Int) + (t473.length : Int))) < (wrap64 ((l0_2.length : Int) + (l0_3.length : Int)))))), (17, 5, .bool (decide ((wrap64 ((t470.length : Int) + (t473.length : Int))) < (wrap64 ((l0_2.length : Int) + (l0_3.length : Int))))))] ∧ Mem w [] w' [box 26 gb455 [.int .i64 a0_0, .int .i64 a0_1, .slice A0_2 l0_2.length c0_2, .slice A0_3 l0_3.length c0_3, .slice A0_4 l0_4.length c0_4], sel (b 16) (box 26 gb456 [.int .i64 t458, .int .i64 t459, .slice Xo20 t470.length ko20, .slice Xo25 t473.length ko25, .slice Xo15 t466.length ko15]) (box 26 gb456 [.int .i64 0, .int .i64 0, .slice none 0 0, .slice none 0 0, .slice none 0 0]), rowR k60 60 (.slice Xo13 t460.length ko13) t460, rowR k60 60 (.slice Xo14 t463.length ko14) t463, rowR (Kd.int .i64) 3 (.slice Xo15 t466.length ko15) t466, box 26 gb469 [.int .i64 t458, .int .i64 t459, .slice Xo20 t470.length ko20, .slice Xo25 t473.length ko25, .slice Xo15 t466.length ko15], rowR k60 60 (.slice Xo20 t470.length ko20) t470, rowR k60 60 (.slice Xo25 t473.length ko25) t473]) spec_Drop.tab6 spec_Drop.bits6 ?_ ?_ ?_
  ·exact ⟨PS0' rfl _, (HM.drew).pick [0, 1, 2, 3, 4, 5, 6, 7]⟩
  ·clear HM
   refine SY ?_ ?_
   ·intro b a w ha HM hb hon hoff K hK
    obtain ⟨_,_,_,_,_,_,_,_,_,_⟩ := bk5 (HM.bx 5 rfl)
    have e6 := PG ha 6
    exact VL (.agg #[.int .i64 t458, .int .i64 t459, .slice Xo20 t470.length ko20, .slice Xo25 t473.length ko25, .slice Xo15 t466.length ko15]) (hK.out _ _ ⟨PUT ha 0 hb, HM⟩)
   refine SY ?_ ?_
   ·intro b a w ha HM hb hon hoff K hK
    have e6 := PG ha 6
    exact VL (.pointer (some ⟨gb469, 2, none⟩)) (hK.out _ _ ⟨PUT ha 1 hb, HM⟩)
   refine SY ?_ ?_
   ·intro b a w ha HM hb hon hoff K hK
    obtain ⟨_,_,_,_,_,_,_,_,_,_⟩ := bk5 (HM.bx 5 rfl)
    have e24 := PE ha 1 hon
    exact VL (.slice Xo20 t470.length ko20) (hK.out _ _ ⟨PUT ha 2 hb, HM⟩)
   refine SY ?_ ?_
   ·intro b a w ha HM hb hon hoff K hK
    have e25 := PE ha 2 hon
    exact VL (.int .i64 (t470.length : Int)) (hK.out _ _ ⟨PUT ha 3 hb, HM⟩)
   refine SY ?_ ?_
   ·intro b a w ha HM hb hon hoff K hK
    have e6 := PG ha 6
    exact VL (.pointer (some ⟨gb469, 3, none⟩)) (hK.out _ _ ⟨PUT ha 4 hb, HM⟩)
   refine SY ?_ ?_
   ·intro b a w ha HM hb hon hoff K hK
    obtain ⟨_,_,_,_,_,_,_,_,_,_⟩ := bk5 (HM.bx 5 rfl)
    have e27 := PE ha 4 hon
    exact VL (.slice Xo25 t473.length ko25) (hK.out _ _ ⟨PUT ha 5 hb, HM⟩)
   refine SY ?_ ?_
   ·intro b a w ha HM hb hon hoff K hK
    have e28 := PE ha 5 hon
    exact VL (.int .i64 (t473.length : Int)) (hK.out _ _ ⟨PUT ha 6 hb, HM⟩)
   refine SY ?_ ?_
   ·intro b a w ha HM hb hon hoff K hK
    have e26 := PE ha 3 hon
    have e29 := PE ha 6 hon
    exact VL (.int .i64 (wrap64 ((t470.length : Int) + (t473.length : Int)))) (hK.out _ _ ⟨PUT ha 7 hb, HM⟩)
   refine SY ?_ ?_
   ·intro b a w ha HM hb hon hoff K hK
    have e2 := PG ha 2
    exact VL (.pointer (some ⟨gb455, 2, none⟩)) (hK.out _ _ ⟨PUT ha 8 hb, HM⟩)
   refine SY ?_ ?_
   ·intro b a w ha HM hb hon hoff K hK
    obtain ⟨_,_,_,_,_,_,_,_,_,_⟩ := bk5 (HM.bx 0 rfl)
    have e31 := PE ha 8 hon
    exact VL (.slice A0_2 l0_2.length c0_2) (hK.out _ _ ⟨PUT ha 9 hb, HM⟩)
   refine SY ?_ ?_
   ·intro b a w ha HM hb hon hoff K hK
    have e32 := PE ha 9 hon
    exact VL (.int .i64 (l0_2.length : Int)) (hK.out _ _ ⟨PUT ha 10 hb, HM⟩)
   refine SY ?_ ?_
   ·intro b a w ha HM hb hon hoff K hK
    have e2 := PG ha 2
    exact VL (.pointer (some ⟨gb455, 3, none⟩)) (hK.out _ _ ⟨PUT ha 11 hb, HM⟩)
   refine SY ?_ ?_
   ·intro b a w ha HM hb hon hoff K hK
    obtain ⟨_,_,_,_,_,_,_,_,_,_⟩ := bk5 (HM.bx 0 rfl)
    have e34 := PE ha 11 hon
    exact VL (.slice A0_3 l0_3.length c0_3) (hK.out _ _ ⟨PUT ha 12 hb, HM⟩)
   refine SY ?_ ?_
   ·intro b a w ha HM hb hon hoff K hK
    have e35 := PE ha 12 hon
    exact VL (.int .i64 (l0_3.length : Int)) (hK.out _ _ ⟨PUT ha 13 hb, HM⟩)
   refine SY ?_ ?_
   ·intro b a w ha HM hb hon hoff K hK
    have e33 := PE ha 10 hon
    have e36 := PE ha 13 hon
    exact VL (.int .i64 (wrap64 ((l0_2.length : Int) + (l0_3.length : Int)))) (hK.out _ _ ⟨PUT ha 14 hb, HM⟩)
   refine SY ?_ ?_
   ·intro b a w ha HM hb hon hoff K hK
    have e30 := PE ha 7 hon
    have e37 := PE ha 14 hon
    exact VL (.bool (decide ((wrap64 ((t470.length : Int) + (t473.length : Int))) < (wrap64 ((l0_2.length : Int) + (l0_3.length : Int)))))) (hK.out _ _ ⟨PUT ha 15 hb, HM⟩)
   refine SY ?_ ?_
   ·intro b a w ha HM hb hon hoff K hK
    replace HM := HM.sF 1 rfl hb
    have e4 := PG ha 4
    have e23 := PE ha 0 hon
    refine ST (eS 1 4 0 [.int .i64 t458, .int .i64 t459, .slice Xo20 t470.length ko20, .slice Xo25 t473.length ko25, .slice Xo15 t466.length ko15] HM rfl rfl ?_ (hp := (eval_of e4)) (hx := (by rw [eval_of e23]; rfl)))
    clear HM
    intro w38 HM
    exact hK.out _ _ ⟨PUS ha, (HM).pick [0, 1, 2, 3, 4, 5, 6, 7]⟩
   refine SY ?_ ?_
   ·intro b a w ha HM hb hon hoff K hK
    have e38 := PE ha 15 hon
    exact VL (.bool (decide ((wrap64 ((t470.length : Int) + (t473.length : Int))) < (wrap64 ((l0_2.length : Int) + (l0_3.length : Int)))))) (hK.out _ _ ⟨PUT ha 16 hb, HM⟩)
   exact steps_nil
  rintro _ w39 ⟨rfl, HM⟩
  replace HM := HM.sT 1 rfl rfl
  simp only [putSel, if_true, Act.put, List.setIfInBounds_toArray, List.set_cons_zero, List.set_cons_succ, gt_iff_lt, ge_iff_le]
  simp only [Option.some.injEq, Prod.mk.injEq] at H
  obtain ⟨rfl, rfl, rfl, rfl, rfl, rfl⟩ := H
  go_wp2
  refine bodyPost_ret (results_ct rfl _ _ gb456 26 #[.int .i64 t458, .int .i64 t459, .slice Xo20 t470.length ko20, .slice Xo25 t473.length ko25, .slice Xo15 t466.length ko15] (0, 0) _ rfl (HM.bx 1 rfl) Tryz.underlying26 rfl (by kernel_rfl)) rfl ?_
  exact ⟨_, _, _, ER, (MD HM).pick [6, 7, 4]⟩
 ·subst c8
  simp only [Option.some.injEq, Prod.mk.injEq] at H
  obtain ⟨rfl, rfl, rfl, rfl, rfl, rfl⟩ := H
  go_wp2_with (first | ((with_reducible refine gS 4 rfl ?_); refine pS 1 4 0 [.int .i64 0, .int .i64 0, .slice none 0 0, .slice none 0 0, .slice none 0 0] HM rfl rfl ?_; clear HM; intro w40 HM; replace HM := HM.nl k60 60; replace HM := HM.nl k60 60; replace HM := HM.nl (Kd.int .i64) 3))
  refine bodyPost_ret (results_ct rfl _ _ gb456 26 #[.int .i64 0, .int .i64 0, .slice none 0 0, .slice none 0 0, .slice none 0 0] (0, 0) _ rfl (HM.bx 1 rfl) Tryz.underlying26 rfl (by kernel_rfl)) rfl ?_
  exact ⟨_, _, _, ER, (MD HM).pick [2, 3, 4]⟩
def spec_l10Some.f (k : Nat) (s0_0 : List Int) (s0_1 : Int) (s0_2 : Int) (a1_0 : Int) (a1_1 : Int) (l1_2 : List (S60)) (l1_3 : List (S60)) (l1_4 : List Int) : Option (Int × Int × (List (S60)) × (List (S60)) × List Int × Int × Int) := (spec_l01Below.f s0_0 s0_1 s0_2 9).bind fun bt481 => (if bt481.1 < 4 then ((spec_l10Key.f s0_0 bt481.2.1 bt481.2.2).bind fun bt484 => ((spec_l10Val.f s0_0 bt484.2.1 bt484.2.2).bind fun bt487 => ((spec_Put.f k a1_0 a1_1 l1_2 l1_3 l1_4 bt484.1 bt487.1).bind fun bt490 => (some (bt490.1, bt490.2.1, bt490.2.2.1, bt490.2.2.2.1, bt490.2.2.2.2.1, bt487.2.1, bt487.2.2))))) else (if bt481.1 < 8 then ((spec_l10Key.f s0_0 bt481.2.1 bt481.2.2).bind fun bt505 => ((spec_Get.f k a1_0 a1_1 l1_2 l1_3 l1_4 bt505.1).bind fun bt508 => (some (bt508.1, bt508.2.1, bt508.2.2.1, bt508.2.2.2.1, bt508.2.2.2.2.1, bt505.2.1, bt505.2.2)))) else ((spec_l10Key.f s0_0 bt481.2.1 bt481.2.2).bind fun bt521 => ((spec_Drop.f k a1_0 a1_1 l1_2 l1_3 l1_4 bt521.1).bind fun bt524 => (some (bt524.1, bt524.2.1, bt524.2.2.1, bt524.2.2.2.1, bt524.2.2.2.2.1, bt521.2.1, bt521.2.2))))))
def spec_l10Some.T2 : Bool × List (List Nat × List Nat) := (true, [([], []), ([], []), ([1], [1]), ([0, 2, 2], [0, 2]), ([3], [3]), ([4], [4]), ([4], [4]), ([5, 3, 0, 1, 2, 3, 4, 5], [5])])
def spec_l10Some.B2 : List Nat := [0, 0, 2, 7, 15, 31, 31, 63]
theorem spec_l10Some.tab2 : rtab .any (opsOf Tryz.f32 2) = spec_l10Some.T2 := by kernel_rfl
theorem spec_l10Some.bits2 : waitsOk spec_l10Some.T2.2 spec_l10Some.B2 = true := by kernel_rfl
def spec_l10Some.T4 : Bool × List (List Nat × List Nat) := (true, [([], []), ([], []), ([1], [1]), ([], []), ([3, 2], [3]), ([0, 2, 4, 4], [0, 2, 4]), ([5], [5]), ([6], [6]), ([6], [6]), ([6], [6]), ([7, 5, 0, 1, 2, 3, 4, 5, 6, 7], [7])])
def spec_l10Some.B4 : List Nat := [0, 0, 2, 0, 14, 31, 63, 127, 127, 127, 255]
theorem spec_l10Some.tab4 : rtab .any (opsOf Tryz.f32 4) = spec_l10Some.T4 := by kernel_rfl
theorem spec_l10Some.bits4 : waitsOk spec_l10Some.T4.2 spec_l10Some.B4 = true := by kernel_rfl
def spec_l10Some.T6 : Bool × List (List Nat × List Nat) := (true, [([], []), ([], []), ([1], [1]), ([0, 2, 2], [0, 2]), ([3], [3]), ([4], [4]), ([4], [4]), ([4], [4]), ([5, 3, 0, 1, 2, 3, 4, 5], [5])])
def spec_l10Some.B6 : List Nat := [0, 0, 2, 7, 15, 31, 31, 31, 63]
theorem spec_l10Some.tab6 : rtab .any (opsOf Tryz.f32 6) = spec_l10Some.T6 := by kernel_rfl
theorem spec_l10Some.bits6 : waitsOk spec_l10Some.T6.2 spec_l10Some.B6 = true := by kernel_rfl
theorem spec_l10Some.calls (k : Nat) (g : Nat) (A0_0 : Option Addr) (c0_0 : Nat) (s0_0 : List Int) (s0_1 : Int) (s0_2 : Int) (a1_0 : Int) (a1_1 : Int) (A1_2 : Option Addr) (c1_2 : Nat) (l1_2 : List (S60)) (A1_3 : Option Addr) (c1_3 : Nat) (l1_3 : List (S60)) (A1_4 : Option Addr) (c1_4 : Nat) (l1_4 : List Int) (r1 : Int) (r2 : Int) (r3 : List (S60)) (r4 : List (S60)) (r5 : List Int) (r6 : Int) (r7 : Int) (w0 w : World) (F : List SP) (hrs0_0 : Kd.C (Kd.int .u8) w0 A0_0 s0_0.length s0_0) (hcs0_0 : s0_0.length ≤ c0_0) (hM : Mem w0 F w [box 43 g [.slice A0_0 s0_0.length c0_0, .int .i64 s0_1, .int .i64 s0_2], row k60 60 (.slice A1_2 l1_2.length c1_2) l1_2, row k60 60 (.slice A1_3 l1_3.length c1_3) l1_3, row (Kd.int .i64) 3 (.slice A1_4 l1_4.length c1_4) l1_4]) (h : spec_l10Some.f k s0_0 s0_1 s0_2 a1_0 a1_1 l1_2 l1_3 l1_4 = some (r1, r2, r3, r4, r5, r6, r7)) :
  Calls Tryz.prog 32 #[.pointer (some ⟨g, 0, none⟩), .agg #[.int .i64 a1_0, .int .i64 a1_1, .slice A1_2 l1_2.length c1_2, .slice A1_3 l1_3.length c1_3, .slice A1_4 l1_4.length c1_4]] w fun e w' => ∃ v2_ v3_ v4_ : Value, e = .returned (.agg #[.int .i64 r1, .int .i64 r2, v2_, v3_, v4_]) ∧ Mem w0 F w' [rowR k60 60 v2_ r3, rowR k60 60 v3_ r4, row (Kd.int .i64) 3 v4_ r5, box 43 g [.slice A0_0 s0_0.length c0_0, .int .i64 r6, .int .i64 r7], row k60 60 (.slice A1_2 l1_2.length c1_2) l1_2, row k60 60 (.slice A1_3 l1_3.length c1_3) l1_3, row (Kd.int .i64) 3 (.slice A1_4 l1_4.length c1_4) l1_4] := by
 have hu26 := Tryz.underlying26
 have HRs0_0 := Aside0.mk hrs0_0
 have HCs0_0 := Aside0.mk hcs0_0
 clear hrs0_0 hcs0_0
 have HM := hM
 clear hM
 have H := h
 clear h
 unfold spec_l10Some.f at H
 go_enter Tryz.func32, Tryz.ntmps32
 replace H := BN H; obtain ⟨⟨t481, t482, t483⟩, A5, H⟩ := H
 go_upto_if 15 with (first | ((with_reducible refine gN 3 rfl ?_); refine pB 3 26 [.int .i64 a1_0, .int .i64 a1_1, .slice A1_2 l1_2.length c1_2, .slice A1_3 l1_3.length c1_3, .slice A1_4 l1_4.length c1_4] HM rfl ?_; clear HM; intro gb479 w3 HM) | ((with_reducible refine gN 4 rfl ?_); refine pB 4 26 [.int .i64 0, .int .i64 0, .slice none 0 0, .slice none 0 0, .slice none 0 0] HM rfl ?_; clear HM; intro gb480 w4 HM) | ((with_reducible refine gC 30 rfl ?_); refine pC (some 7) rfl #[.pointer (some ⟨g, 0, none⟩), .int .i64 9] rfl Tryz.func30 (spec_l01Below.calls g A0_0 c0_0 s0_0 s0_1 s0_2 9 t481 t482 t483 _ _ _ HRs0_0.out HCs0_0.out (HM.focus [1, 2, 3, 4, 5] [0]) A5.out) ?_; rintro e w6 ⟨rfl, hR⟩; refine ⟨_, rfl, ?_⟩; replace HM := nzM hR.unfocus; clear hR))
 replace HM := nzM HM
 replace H := IT H; rcases H with ⟨c7, H⟩ | ⟨c7, H⟩
 ·have c7b0 : decide (t481 < 4) = true := decide_eq_true c7
  clear c7
  first|rw [c7b0]|(simp only [i64_w, i32_w]; rw [c7b0])|skip
  try go_wp2
  replace H := BN H; obtain ⟨⟨t484, t485, t486⟩, A8, H⟩ := H
  replace H := BN H; obtain ⟨⟨t487, t488, t489⟩, A9, H⟩ := H
  replace H := BN H; obtain ⟨⟨t490, t491, t492, t495, t498, t501, t504⟩, A10, H⟩ := H
  refine RGN 11 [0, 1, 2, 3, 4, 5, 6, 7, 8, 9, 10] (fun a0 b a w' => ∃ (v493 : Value) (v496 : Value) (v499 : Value) (v502 : Value), a = putSel a0 b [(0, 19, .agg #[.int .i64 a1_0, .int .i64 a1_1, .slice A1_2 l1_2.length c1_2, .slice A1_3 l1_3.length c1_3, .slice A1_4 l1_4.length c1_4]), (1, 20, .pointer (some ⟨g, 0, none⟩)), (2, 21, .string t484), (3, 22, .pointer (some ⟨g, 0, none⟩)), (4, 23, .string t487), (5, 24, .tuple #[.agg #[.int .i64 t490, .int .i64 t491, v493, v496, v499], v502, .bool t504]), (6, 18, .tuple #[.agg #[.int .i64 t490, .int .i64 t491, v493, v496, v499], v502, .bool t504]), (7, 25, .agg #[.int .i64 t490, .int .i64 t491, v493, v496, v499]), (8, 26, v502), (9, 27, .bool t504)] ∧ Mem w0 F w' [row k60 60 (.slice A1_2 l1_2.length c1_2) l1_2, row k60 60 (.slice A1_3 l1_3.length c1_3) l1_3, row (Kd.int .i64) 3 (.slice A1_4 l1_4.length c1_4) l1_4, sel (b 10) (box 26 gb479 [.int .i64 t490, .int .i64 t491, v493, v496, v499]) (box 26 gb479 [.int .i64 a1_0, .int .i64 a1_1, .slice A1_2 l1_2.length c1_2, .slice A1_3 l1_3.length c1_3, .slice A1_4 l1_4.length c1_4]), box 26 gb480 [.int .i64 0, .int .i64 0, .slice none 0 0, .slice none 0 0, .slice none 0 0], sel (b 4) (box 43 g [.slice A0_0 s0_0.length c0_0, .int .i64 t488, .int .i64 t489]) (sel (b 2) (box 43 g [.slice A0_0 s0_0.length c0_0, .int .i64 t485, .int .i64 t486]) (box 43 g [.slice A0_0 s0_0.length c0_0, .int .i64 t482, .int .i64 t483])), sel (b 5) (rowR k60 60 v493 t492) (emp), sel (b 5) (rowR k60 60 v496 t495) (emp), sel (b 5) (row (Kd.int .i64) 3 v499 t498) (emp), sel (b 5) (rowR Kd.string 9 v502 t501) (emp)]) spec_l10Some.tab4 spec_l10Some.bits4 ?_ ?_ ?_
  ·exact ⟨.bool false, .bool false, .bool false, .bool false, PS0' rfl _, (HM.drew.ems 4).pick [0, 1, 2, 3, 4, 5, 6, 7, 8, 9]⟩
  ·clear HM
   refine SZ ?_ ?_
   ·rintro b a w ⟨v493, v496, v499, v502, ha, HM⟩ hb hon hoff K hK
    replace ha := Aside0.mk ha
    have HZ := HM
    replace HM := HM.sF 3 rfl (hoff 10 rfl)
    obtain ⟨_,_,_,_,_,_,_,_,_,_⟩ := bk5 (HM.bx 3 rfl)
    have e3 := PG ha 3
    exact VL (.agg #[.int .i64 a1_0, .int .i64 a1_1, .slice A1_2 l1_2.length c1_2, .slice A1_3 l1_3.length c1_3, .slice A1_4 l1_4.length c1_4]) (hK.out _ _ ⟨v493, v496, v499, v502, PUT ha 0 hb, HZ⟩)
   refine SZ ?_ ?_
   ·rintro b a w ⟨v493, v496, v499, v502, ha, HM⟩ hb hon hoff K hK
    replace ha := Aside0.mk ha
    have e0 := PG ha 0
    exact VL (.pointer (some ⟨g, 0, none⟩)) (hK.out _ _ ⟨v493, v496, v499, v502, PUT ha 1 hb, HM⟩)
   refine SZ ?_ ?_
   ·rintro b a w ⟨v493, v496, v499, v502, ha, HM⟩ hb hon hoff K hK
    replace ha := Aside0.mk ha
    replace HM := (HM.sF 5 rfl (hoff 4 rfl)).sF 5 rfl hb
    have e20 := PE ha 1 hon
    refine ST (eC (some 21) rfl #[.pointer (some ⟨g, 0, none⟩)] rfl Tryz.func49 (spec_l10Key.calls g A0_0 c0_0 s0_0 t482 t483 t484 t485 t486 _ _ _ HRs0_0.out HCs0_0.out (HM.focus [0, 1, 2, 3, 4, 6, 7, 8, 9] [5]) A8.out) ?_ (hargs := by (simp only [List.map_toArray, List.map_cons, List.map_nil, evc, eval_of e20]) <;> rfl))
    rintro e w20 ⟨rfl, hR⟩
    refine ⟨_, rfl, ?_⟩
    replace HM := nzM hR.unfocus
    clear hR
    exact hK.out _ _ ⟨v493, v496, v499, v502, PUT ha 2 hb, (HM.iF 9 rfl (hoff 4 rfl)).pick [0, 1, 2, 3, 4, 9, 5, 6, 7, 8]⟩
   refine SZ ?_ ?_
   ·rintro b a w ⟨v493, v496, v499, v502, ha, HM⟩ hb hon hoff K hK
    replace ha := Aside0.mk ha
    have e0 := PG ha 0
    exact VL (.pointer (some ⟨g, 0, none⟩)) (hK.out _ _ ⟨v493, v496, v499, v502, PUT ha 3 hb, HM⟩)
   refine SZ ?_ ?_
   ·rintro b a w ⟨v493, v496, v499, v502, ha, HM⟩ hb hon hoff K hK
    replace ha := Aside0.mk ha
    replace HM := (HM.sF 5 rfl hb).sT 5 rfl (hon 2 rfl)
    have e22 := PE ha 3 hon
    refine ST (eC (some 23) rfl #[.pointer (some ⟨g, 0, none⟩)] rfl Tryz.func50 (spec_l10Val.calls g A0_0 c0_0 s0_0 t485 t486 t487 t488 t489 _ _ _ HRs0_0.out HCs0_0.out (HM.focus [0, 1, 2, 3, 4, 6, 7, 8, 9] [5]) A9.out) ?_ (hargs := by (simp only [List.map_toArray, List.map_cons, List.map_nil, evc, eval_of e22]) <;> rfl))
    rintro e w21 ⟨rfl, hR⟩
    refine ⟨_, rfl, ?_⟩
    replace HM := nzM hR.unfocus
    clear hR
    exact hK.out _ _ ⟨v493, v496, v499, v502, PUT ha 4 hb, (HM).pick [0, 1, 2, 3, 4, 9, 5, 6, 7, 8]⟩
   refine SZ ?_ ?_
   ·rintro b a w ⟨v493, v496, v499, v502, ha, HM⟩ hb hon hoff K hK
    replace ha := Aside0.mk ha
    have e19 := PE ha 0 hon
    have e21 := PE ha 2 hon
    have e23 := PE ha 4 hon
    refine ST (eC (some 24) rfl #[.agg #[.int .i64 a1_0, .int .i64 a1_1, .slice A1_2 l1_2.length c1_2, .slice A1_3 l1_3.length c1_3, .slice A1_4 l1_4.length c1_4], .string t484, .string t487] rfl Tryz.func48 (spec_Put.calls k a1_0 a1_1 _ _ l1_2 _ _ l1_3 _ _ l1_4 t484 t487 t490 t491 t492 t495 t498 t501 t504 _ (HM.C 0 rfl).2.2 (HM.C 0 rfl).2.1 (HM.C 1 rfl).2.2 (HM.C 1 rfl).2.1 (HM.C 2 rfl).2.2 (HM.C 2 rfl).2.1 A10.out) ?_ (hargs := by (simp only [List.map_toArray, List.map_cons, List.map_nil, evc, eval_of e19, eval_of e21, eval_of e23]) <;> rfl))
    rintro e w22 ⟨v493, v496, v499, v502, rfl, hR⟩
    refine ⟨_, rfl, ?_⟩
    replace HM := HM.call hR
    clear hR
    exact hK.out _ _ ⟨v493, v496, v499, v502, PUT (PCH (PCH (PCH ha 6 (hoff 6 rfl)) 7 (hoff 7 rfl)) 8 (hoff 8 rfl)) 5 hb, ((HM.sF 3 rfl (hoff 10 rfl)).iF 3 rfl (hoff 10 rfl)).pick [0, 1, 2, 3, 4, 5, 10, 11, 12, 13]⟩
   refine SZ ?_ ?_
   ·rintro b a w ⟨v493, v496, v499, v502, ha, HM⟩ hb hon hoff K hK
    replace ha := Aside0.mk ha
    have e24 := PE ha 5 hon
    exact VL (.tuple #[.agg #[.int .i64 t490, .int .i64 t491, v493, v496, v499], v502, .bool t504]) (hK.out _ _ ⟨v493, v496, v499, v502, PUT ha 6 hb, HM⟩)
   refine SZ ?_ ?_
   ·rintro b a w ⟨v493, v496, v499, v502, ha, HM⟩ hb hon hoff K hK
    replace ha := Aside0.mk ha
    have e18 := PE ha 6 hon
    exact VL (.agg #[.int .i64 t490, .int .i64 t491, v493, v496, v499]) (hK.out _ _ ⟨v493, v496, v499, v502, PUT ha 7 hb, HM⟩)
   refine SZ ?_ ?_
   ·rintro b a w ⟨v493, v496, v499, v502, ha, HM⟩ hb hon hoff K hK
    replace ha := Aside0.mk ha
    have e18 := PE ha 6 hon
    exact VL (v502) (hK.out _ _ ⟨v493, v496, v499, v502, PUT ha 8 hb, HM⟩)
   refine SZ ?_ ?_
   ·rintro b a w ⟨v493, v496, v499, v502, ha, HM⟩ hb hon hoff K hK
    replace ha := Aside0.mk ha
    have e18 := PE ha 6 hon
    exact VL (.bool t504) (hK.out _ _ ⟨v493, v496, v499, v502, PUT ha 9 hb, HM⟩)
   refine SZ ?_ ?_
   ·rintro b a w ⟨v493, v496, v499, v502, ha, HM⟩ hb hon hoff K hK
    replace ha := Aside0.mk ha
    replace HM := HM.sF 3 rfl hb
    replace HM := HM.sT 6 rfl (hon 5 rfl)
    replace HM := HM.sT 7 rfl (hon 5 rfl)
    replace HM := HM.sT 8 rfl (hon 5 rfl)
    obtain ⟨Xo23, ko23, rfl⟩ := HM.rdR 6 rfl
    obtain ⟨Xo24, ko24, rfl⟩ := HM.rdR 7 rfl
    obtain ⟨Xo25, ko25, rfl⟩ := HM.rd 8 rfl
    have e3 := PG ha 3
    have e25 := PE ha 7 hon
    refine ST (eS 3 3 0 [.int .i64 t490, .int .i64 t491, .slice Xo23 t492.length ko23, .slice Xo24 t495.length ko24, .slice Xo25 t498.length ko25] HM rfl rfl ?_ (hp := (eval_of e3)) (hx := (by rw [eval_of e25]; rfl)))
    clear HM
    intro w26 HM
    exact hK.out _ _ ⟨.slice Xo23 t492.length ko23, .slice Xo24 t495.length ko24, .slice Xo25 t498.length ko25, v502, PUS ha, (((HM.iT 6 rfl (hon 5 rfl)).iT 7 rfl (hon 5 rfl)).iT 8 rfl (hon 5 rfl)).pick [0, 1, 2, 3, 4, 5, 6, 7, 8, 9]⟩
   exact steps_nil
  rintro _ w27 ⟨v493, v496, v499, v502, rfl, HM⟩
  replace HM := HM.sT 3 rfl rfl
  replace HM := HM.sT 5 rfl rfl
  replace HM := HM.sT 6 rfl rfl
  replace HM := HM.sT 7 rfl rfl
  replace HM := HM.sT 8 rfl rfl
  replace HM := HM.sT 9 rfl rfl
  simp only [putSel, if_true, Act.put, List.setIfInBounds_toArray, List.set_cons_zero, List.set_cons_succ, gt_iff_lt, ge_iff_le]
  simp only [Option.some.injEq, Prod.mk.injEq] at H
  obtain ⟨rfl, rfl, rfl, rfl, rfl, rfl, rfl⟩ := H
  obtain ⟨_,_,_,_,_,_,_,_,_,_⟩ := bk5 (HM.bx 3 rfl)
  obtain ⟨Xo29, ko29, rfl⟩ := HM.rdR 6 rfl
  obtain ⟨Xo30, ko30, rfl⟩ := HM.rdR 7 rfl
  obtain ⟨Xo31, ko31, rfl⟩ := HM.rd 8 rfl
  go_wp2_with (first | ((with_reducible refine gS 4 rfl ?_); refine pS 4 4 0 [.int .i64 t490, .int .i64 t491, .slice Xo29 t492.length ko29, .slice Xo30 t495.length ko30, .slice Xo31 t498.length ko31] HM rfl rfl ?_; clear HM; intro w32 HM))
  refine bodyPost_ret (results_cell_row rfl _ _ gb480 26 #[.int .i64 t490, .int .i64 t491, .slice Xo29 t492.length ko29, .slice Xo30 t495.length ko30, .slice Xo31 t498.length ko31] (0, 0) _ rfl (HM.bx 4 rfl) Tryz.underlying26 rfl (by kernel_rfl)) rfl ?_
  exact ⟨_, _, _, ER, (MD HM).pick [6, 7, 8, 5, 0, 1, 2]⟩
 ·have c7b0 : decide (t481 < 4) = false := decide_eq_false c7
  clear c7
  first|rw [c7b0]|(simp only [i64_w, i32_w]; rw [c7b0])|skip
  go_upto_if 28 with (fail)
  replace H := IT H; rcases H with ⟨c33, H⟩ | ⟨c33, H⟩
  ·have c33b0 : decide (t481 < 8) = true := decide_eq_true c33
   clear c33
   first|rw [c33b0]|(simp only [i64_w, i32_w]; rw [c33b0])|skip
   try go_wp2
   replace H := BN H; obtain ⟨⟨t505, t506, t507⟩, A34, H⟩ := H
   replace H := BN H; obtain ⟨⟨t508, t509, t510, t513, t516, t519, t520⟩, A35, H⟩ := H
   refine RGN 9 [0, 1, 2, 3, 4, 5, 6, 7, 8] (fun a0 b a w' => ∃ (v511 : Value) (v514 : Value) (v517 : Value), a = putSel a0 b [(0, 32, .agg #[.int .i64 a1_0, .int .i64 a1_1, .slice A1_2 l1_2.length c1_2, .slice A1_3 l1_3.length c1_3, .slice A1_4 l1_4.length c1_4]), (1, 33, .pointer (some ⟨g, 0, none⟩)), (2, 34, .string t505), (3, 35, .tuple #[.agg #[.int .i64 t508, .int .i64 t509, v511, v514, v517], .string t519, .bool t520]), (4, 31, .tuple #[.agg #[.int .i64 t508, .int .i64 t509, v511, v514, v517], .string t519, .bool t520]), (5, 36, .agg #[.int .i64 t508, .int .i64 t509, v511, v514, v517]), (6, 37, .string t519), (7, 38, .bool t520)] ∧ Mem w0 F w' [row k60 60 (.slice A1_2 l1_2.length c1_2) l1_2, row k60 60 (.slice A1_3 l1_3.length c1_3) l1_3, row (Kd.int .i64) 3 (.slice A1_4 l1_4.length c1_4) l1_4, sel (b 8) (box 26 gb479 [.int .i64 t508, .int .i64 t509, v511, v514, v517]) (box 26 gb479 [.int .i64 a1_0, .int .i64 a1_1, .slice A1_2 l1_2.length c1_2, .slice A1_3 l1_3.length c1_3, .slice A1_4 l1_4.length c1_4]), box 26 gb480 [.int .i64 0, .int .i64 0, .slice none 0 0, .slice none 0 0, .slice none 0 0], sel (b 2) (box 43 g [.slice A0_0 s0_0.length c0_0, .int .i64 t506, .int .i64 t507]) (box 43 g [.slice A0_0 s0_0.length c0_0, .int .i64 t482, .int .i64 t483]), sel (b 3) (rowR k60 60 v511 t510) (emp), sel (b 3) (rowR k60 60 v514 t513) (emp), sel (b 3) (rowR (Kd.int .i64) 3 v517 t516) (emp)]) spec_l10Some.tab6 spec_l10Some.bits6 ?_ ?_ ?_
   ·exact ⟨.bool false, .bool false, .bool false, PS0' rfl _, (HM.drew.ems 3).pick [0, 1, 2, 3, 4, 5, 6, 7, 8]⟩
   ·clear HM
    refine SZ ?_ ?_
    ·rintro b a w ⟨v511, v514, v517, ha, HM⟩ hb hon hoff K hK
     replace ha := Aside0.mk ha
     have HZ := HM
     replace HM := HM.sF 3 rfl (hoff 8 rfl)
     obtain ⟨_,_,_,_,_,_,_,_,_,_⟩ := bk5 (HM.bx 3 rfl)
     have e3 := PG ha 3
     exact VL (.agg #[.int .i64 a1_0, .int .i64 a1_1, .slice A1_2 l1_2.length c1_2, .slice A1_3 l1_3.length c1_3, .slice A1_4 l1_4.length c1_4]) (hK.out _ _ ⟨v511, v514, v517, PUT ha 0 hb, HZ⟩)
    refine SZ ?_ ?_
    ·rintro b a w ⟨v511, v514, v517, ha, HM⟩ hb hon hoff K hK
     replace ha := Aside0.mk ha
     have e0 := PG ha 0
     exact VL (.pointer (some ⟨g, 0, none⟩)) (hK.out _ _ ⟨v511, v514, v517, PUT ha 1 hb, HM⟩)
    refine SZ ?_ ?_
    ·rintro b a w ⟨v511, v514, v517, ha, HM⟩ hb hon hoff K hK
     replace ha := Aside0.mk ha
     replace HM := HM.sF 5 rfl hb
     have e33 := PE ha 1 hon
     refine ST (eC (some 34) rfl #[.pointer (some ⟨g, 0, none⟩)] rfl Tryz.func49 (spec_l10Key.calls g A0_0 c0_0 s0_0 t482 t483 t505 t506 t507 _ _ _ HRs0_0.out HCs0_0.out (HM.focus [0, 1, 2, 3, 4, 6, 7, 8] [5]) A34.out) ?_ (hargs := by (simp only [List.map_toArray, List.map_cons, List.map_nil, evc, eval_of e33]) <;> rfl))
     rintro e w44 ⟨rfl, hR⟩
     refine ⟨_, rfl, ?_⟩
     replace HM := nzM hR.unfocus
     clear hR
     exact hK.out _ _ ⟨v511, v514, v517, PUT ha 2 hb, (HM).pick [0, 1, 2, 3, 4, 8, 5, 6, 7]⟩
    refine SZ ?_ ?_
    ·rintro b a w ⟨v511, v514, v517, ha, HM⟩ hb hon hoff K hK
     replace ha := Aside0.mk ha
     have e32 := PE ha 0 hon
     have e34 := PE ha 2 hon
     refine ST (eC (some 35) rfl #[.agg #[.int .i64 a1_0, .int .i64 a1_1, .slice A1_2 l1_2.length c1_2, .slice A1_3 l1_3.length c1_3, .slice A1_4 l1_4.length c1_4], .string t505] rfl Tryz.func51 (spec_Get.calls k a1_0 a1_1 _ _ l1_2 _ _ l1_3 _ _ l1_4 t505 t508 t509 t510 t513 t516 t519 t520 _ (HM.C 0 rfl).2.2 (HM.C 0 rfl).2.1 (HM.C 1 rfl).2.2 (HM.C 1 rfl).2.1 (HM.C 2 rfl).2.2 (HM.C 2 rfl).2.1 A35.out) ?_ (hargs := by (simp only [List.map_toArray, List.map_cons, List.map_nil, evc, eval_of e32, eval_of e34]) <;> rfl))
     rintro e w45 ⟨v511, v514, v517, rfl, hR⟩
     refine ⟨_, rfl, ?_⟩
     replace HM := HM.call hR
     clear hR
     exact hK.out _ _ ⟨v511, v514, v517, PUT (PCH (PCH ha 4 (hoff 4 rfl)) 5 (hoff 5 rfl)) 3 hb, ((HM.sF 3 rfl (hoff 8 rfl)).iF 3 rfl (hoff 8 rfl)).pick [0, 1, 2, 3, 4, 5, 9, 10, 11]⟩
    refine SZ ?_ ?_
    ·rintro b a w ⟨v511, v514, v517, ha, HM⟩ hb hon hoff K hK
     replace ha := Aside0.mk ha
     have e35 := PE ha 3 hon
     exact VL (.tuple #[.agg #[.int .i64 t508, .int .i64 t509, v511, v514, v517], .string t519, .bool t520]) (hK.out _ _ ⟨v511, v514, v517, PUT ha 4 hb, HM⟩)
    refine SZ ?_ ?_
    ·rintro b a w ⟨v511, v514, v517, ha, HM⟩ hb hon hoff K hK
     replace ha := Aside0.mk ha
     have e31 := PE ha 4 hon
     exact VL (.agg #[.int .i64 t508, .int .i64 t509, v511, v514, v517]) (hK.out _ _ ⟨v511, v514, v517, PUT ha 5 hb, HM⟩)
    refine SZ ?_ ?_
    ·rintro b a w ⟨v511, v514, v517, ha, HM⟩ hb hon hoff K hK
     replace ha := Aside0.mk ha
     have e31 := PE ha 4 hon
     exact VL (.string t519) (hK.out _ _ ⟨v511, v514, v517, PUT ha 6 hb, HM⟩)
    refine SZ ?_ ?_
    ·rintro b a w ⟨v511, v514, v517, ha, HM⟩ hb hon hoff K hK
     replace ha := Aside0.mk ha
     have e31 := PE ha 4 hon
     exact VL (.bool t520) (hK.out _ _ ⟨v511, v514, v517, PUT ha 7 hb, HM⟩)
    refine SZ ?_ ?_
    ·rintro b a w ⟨v511, v514, v517, ha, HM⟩ hb hon hoff K hK
     replace ha := Aside0.mk ha
     replace HM := HM.sF 3 rfl hb
     replace HM := HM.sT 6 rfl (hon 3 rfl)
     replace HM := HM.sT 7 rfl (hon 3 rfl)
     replace HM := HM.sT 8 rfl (hon 3 rfl)
     obtain ⟨Xo46, ko46, rfl⟩ := HM.rdR 6 rfl
     obtain ⟨Xo47, ko47, rfl⟩ := HM.rdR 7 rfl
     obtain ⟨Xo48, ko48, rfl⟩ := HM.rdR 8 rfl
     have e3 := PG ha 3
     have e36 := PE ha 5 hon
     refine ST (eS 3 3 0 [.int .i64 t508, .int .i64 t509, .slice Xo46 t510.length ko46, .slice Xo47 t513.length ko47, .slice Xo48 t516.length ko48] HM rfl rfl ?_ (hp := (eval_of e3)) (hx := (by rw [eval_of e36]; rfl)))
     clear HM
     intro w49 HM
     exact hK.out _ _ ⟨.slice Xo46 t510.length ko46, .slice Xo47 t513.length ko47, .slice Xo48 t516.length ko48, PUS ha, (((HM.iT 6 rfl (hon 3 rfl)).iT 7 rfl (hon 3 rfl)).iT 8 rfl (hon 3 rfl)).pick [0, 1, 2, 3, 4, 5, 6, 7, 8]⟩
    exact steps_nil
   rintro _ w50 ⟨v511, v514, v517, rfl, HM⟩
   replace HM := HM.sT 3 rfl rfl
   replace HM := HM.sT 5 rfl rfl
   replace HM := HM.sT 6 rfl rfl
   replace HM := HM.sT 7 rfl rfl
   replace HM := HM.sT 8 rfl rfl
   simp only [putSel, if_true, Act.put, List.setIfInBounds_toArray, List.set_cons_zero, List.set_cons_succ, gt_iff_lt, ge_iff_le]
   simp only [Option.some.injEq, Prod.mk.injEq] at H
   obtain ⟨rfl, rfl, rfl, rfl, rfl, rfl, rfl⟩ := H
   obtain ⟨_,_,_,_,_,_,_,_,_,_⟩ := bk5 (HM.bx 3 rfl)
   obtain ⟨Xo52, ko52, rfl⟩ := HM.rdR 6 rfl
   obtain ⟨Xo53, ko53, rfl⟩ := HM.rdR 7 rfl
   obtain ⟨Xo54, ko54, rfl⟩ := HM.rdR 8 rfl
   go_wp2_with (first | ((with_reducible refine gS 4 rfl ?_); refine pS 4 4 0 [.int .i64 t508, .int .i64 t509, .slice Xo52 t510.length ko52, .slice Xo53 t513.length ko53, .slice Xo54 t516.length ko54] HM rfl rfl ?_; clear HM; intro w55 HM; replace HM := HM.toQ 8 rfl))
   refine bodyPost_ret (results_cell_row rfl _ _ gb480 26 #[.int .i64 t508, .int .i64 t509, .slice Xo52 t510.length ko52, .slice Xo53 t513.length ko53, .slice Xo54 t516.length ko54] (0, 0) _ rfl (HM.bx 4 rfl) Tryz.underlying26 rfl (by kernel_rfl)) rfl ?_
   exact ⟨_, _, _, ER, (MD HM).pick [6, 7, 8, 5, 0, 1, 2]⟩
  ·have c33b0 : decide (t481 < 8) = false := decide_eq_false c33
   clear c33
   first|rw [c33b0]|(simp only [i64_w, i32_w]; rw [c33b0])|skip
   try go_wp2
   replace H := BN H; obtain ⟨⟨t521, t522, t523⟩, A56, H⟩ := H
   replace H := BN H; obtain ⟨⟨t524, t525, t526, t529, t532, t535⟩, A57, H⟩ := H
   refine RGN 8 [0, 1, 2, 3, 4, 5, 6, 7] (fun a0 b a w' => ∃ (v527 : Value) (v530 : Value) (v533 : Value), a = putSel a0 b [(0, 9, .agg #[.int .i64 a1_0, .int .i64 a1_1, .slice A1_2 l1_2.length c1_2, .slice A1_3 l1_3.length c1_3, .slice A1_4 l1_4.length c1_4]), (1, 10, .pointer (some ⟨g, 0, none⟩)), (2, 11, .string t521), (3, 12, .tuple #[.agg #[.int .i64 t524, .int .i64 t525, v527, v530, v533], .bool t535]), (4, 8, .tuple #[.agg #[.int .i64 t524, .int .i64 t525, v527, v530, v533], .bool t535]), (5, 13, .agg #[.int .i64 t524, .int .i64 t525, v527, v530, v533]), (6, 14, .bool t535)] ∧ Mem w0 F w' [row k60 60 (.slice A1_2 l1_2.length c1_2) l1_2, row k60 60 (.slice A1_3 l1_3.length c1_3) l1_3, row (Kd.int .i64) 3 (.slice A1_4 l1_4.length c1_4) l1_4, sel (b 7) (box 26 gb479 [.int .i64 t524, .int .i64 t525, v527, v530, v533]) (box 26 gb479 [.int .i64 a1_0, .int .i64 a1_1, .slice A1_2 l1_2.length c1_2, .slice A1_3 l1_3.length c1_3, .slice A1_4 l1_4.length c1_4]), box 26 gb480 [.int .i64 0, .int .i64 0, .slice none 0 0, .slice none 0 0, .slice none 0 0], sel (b 2) (box 43 g [.slice A0_0 s0_0.length c0_0, .int .i64 t522, .int .i64 t523]) (box 43 g [.slice A0_0 s0_0.length c0_0, .int .i64 t482, .int .i64 t483]), sel (b 3) (rowR k60 60 v527 t526) (emp), sel (b 3) (rowR k60 60 v530 t529) (emp), sel (b 3) (rowR (Kd.int .i64) 3 v533 t532) (emp)]) spec_l10Some.tab2 spec_l10Some.bits2 ?_ ?_ ?_
   ·exact ⟨.bool false, .bool false, .bool false, PS0' rfl _, (HM.drew.ems 3).pick [0, 1, 2, 3, 4, 5, 6, 7, 8]⟩
   ·clear HM
    refine SZ ?_ ?_
    ·rintro b a w ⟨v527, v530, v533, ha, HM⟩ hb hon hoff K hK
     replace ha := Aside0.mk ha
     have HZ := HM
     replace HM := HM.sF 3 rfl (hoff 7 rfl)
     obtain ⟨_,_,_,_,_,_,_,_,_,_⟩ := bk5 (HM.bx 3 rfl)
     have e3 := PG ha 3
     exact VL (.agg #[.int .i64 a1_0, .int .i64 a1_1, .slice A1_2 l1_2.length c1_2, .slice A1_3 l1_3.length c1_3, .slice A1_4 l1_4.length c1_4]) (hK.out _ _ ⟨v527, v530, v533, PUT ha 0 hb, HZ⟩)
    refine SZ ?_ ?_
    ·rintro b a w ⟨v527, v530, v533, ha, HM⟩ hb hon hoff K hK
     replace ha := Aside0.mk ha
     have e0 := PG ha 0
     exact VL (.pointer (some ⟨g, 0, none⟩)) (hK.out _ _ ⟨v527, v530, v533, PUT ha 1 hb, HM⟩)
    refine SZ ?_ ?_
    ·rintro b a w ⟨v527, v530, v533, ha, HM⟩ hb hon hoff K hK
     replace ha := Aside0.mk ha
     replace HM := HM.sF 5 rfl hb
     have e10 := PE ha 1 hon
     refine ST (eC (some 11) rfl #[.pointer (some ⟨g, 0, none⟩)] rfl Tryz.func49 (spec_l10Key.calls g A0_0 c0_0 s0_0 t482 t483 t521 t522 t523 _ _ _ HRs0_0.out HCs0_0.out (HM.focus [0, 1, 2, 3, 4, 6, 7, 8] [5]) A56.out) ?_ (hargs := by (simp only [List.map_toArray, List.map_cons, List.map_nil, evc, eval_of e10]) <;> rfl))
     rintro e w66 ⟨rfl, hR⟩
     refine ⟨_, rfl, ?_⟩
     replace HM := nzM hR.unfocus
     clear hR
     exact hK.out _ _ ⟨v527, v530, v533, PUT ha 2 hb, (HM).pick [0, 1, 2, 3, 4, 8, 5, 6, 7]⟩
    refine SZ ?_ ?_
    ·rintro b a w ⟨v527, v530, v533, ha, HM⟩ hb hon hoff K hK
     replace ha := Aside0.mk ha
     have e9 := PE ha 0 hon
     have e11 := PE ha 2 hon
     refine ST (eC (some 12) rfl #[.agg #[.int .i64 a1_0, .int .i64 a1_1, .slice A1_2 l1_2.length c1_2, .slice A1_3 l1_3.length c1_3, .slice A1_4 l1_4.length c1_4], .string t521] rfl Tryz.func52 (spec_Drop.calls k a1_0 a1_1 _ _ l1_2 _ _ l1_3 _ _ l1_4 t521 t524 t525 t526 t529 t532 t535 _ (HM.C 0 rfl).2.2 (HM.C 0 rfl).2.1 (HM.C 1 rfl).2.2 (HM.C 1 rfl).2.1 (HM.C 2 rfl).2.2 (HM.C 2 rfl).2.1 A57.out) ?_ (hargs := by (simp only [List.map_toArray, List.map_cons, List.map_nil, evc, eval_of e9, eval_of e11]) <;> rfl))
     rintro e w67 ⟨v527, v530, v533, rfl, hR⟩
     refine ⟨_, rfl, ?_⟩
     replace HM := HM.call hR
     clear hR
     exact hK.out _ _ ⟨v527, v530, v533, PUT (PCH (PCH ha 4 (hoff 4 rfl)) 5 (hoff 5 rfl)) 3 hb, ((HM.sF 3 rfl (hoff 7 rfl)).iF 3 rfl (hoff 7 rfl)).pick [0, 1, 2, 3, 4, 5, 9, 10, 11]⟩
    refine SZ ?_ ?_
    ·rintro b a w ⟨v527, v530, v533, ha, HM⟩ hb hon hoff K hK
     replace ha := Aside0.mk ha
     have e12 := PE ha 3 hon
     exact VL (.tuple #[.agg #[.int .i64 t524, .int .i64 t525, v527, v530, v533], .bool t535]) (hK.out _ _ ⟨v527, v530, v533, PUT ha 4 hb, HM⟩)
    refine SZ ?_ ?_
    ·rintro b a w ⟨v527, v530, v533, ha, HM⟩ hb hon hoff K hK
     replace ha := Aside0.mk ha
     have e8 := PE ha 4 hon
     exact VL (.agg #[.int .i64 t524, .int .i64 t525, v527, v530, v533]) (hK.out _ _ ⟨v527, v530, v533, PUT ha 5 hb, HM⟩)
    refine SZ ?_ ?_
    ·rintro b a w ⟨v527, v530, v533, ha, HM⟩ hb hon hoff K hK
     replace ha := Aside0.mk ha
     have e8 := PE ha 4 hon
     exact VL (.bool t535) (hK.out _ _ ⟨v527, v530, v533, PUT ha 6 hb, HM⟩)
    refine SZ ?_ ?_
    ·rintro b a w ⟨v527, v530, v533, ha, HM⟩ hb hon hoff K hK
     replace ha := Aside0.mk ha
     replace HM := HM.sF 3 rfl hb
     replace HM := HM.sT 6 rfl (hon 3 rfl)
     replace HM := HM.sT 7 rfl (hon 3 rfl)
     replace HM := HM.sT 8 rfl (hon 3 rfl)
     obtain ⟨Xo68, ko68, rfl⟩ := HM.rdR 6 rfl
     obtain ⟨Xo69, ko69, rfl⟩ := HM.rdR 7 rfl
     obtain ⟨Xo70, ko70, rfl⟩ := HM.rdR 8 rfl
     have e3 := PG ha 3
     have e13 := PE ha 5 hon
     refine ST (eS 3 3 0 [.int .i64 t524, .int .i64 t525, .slice Xo68 t526.length ko68, .slice Xo69 t529.length ko69, .slice Xo70 t532.length ko70] HM rfl rfl ?_ (hp := (eval_of e3)) (hx := (by rw [eval_of e13]; rfl)))
     clear HM
     intro w71 HM
     exact hK.out _ _ ⟨.slice Xo68 t526.length ko68, .slice Xo69 t529.length ko69, .slice Xo70 t532.length ko70, PUS ha, (((HM.iT 6 rfl (hon 3 rfl)).iT 7 rfl (hon 3 rfl)).iT 8 rfl (hon 3 rfl)).pick [0, 1, 2, 3, 4, 5, 6, 7, 8]⟩
    exact steps_nil
   rintro _ w72 ⟨v527, v530, v533, rfl, HM⟩
   replace HM := HM.sT 3 rfl rfl
   replace HM := HM.sT 5 rfl rfl
   replace HM := HM.sT 6 rfl rfl
   replace HM := HM.sT 7 rfl rfl
   replace HM := HM.sT 8 rfl rfl
   simp only [putSel, if_true, Act.put, List.setIfInBounds_toArray, List.set_cons_zero, List.set_cons_succ, gt_iff_lt, ge_iff_le]
   simp only [Option.some.injEq, Prod.mk.injEq] at H
   obtain ⟨rfl, rfl, rfl, rfl, rfl, rfl, rfl⟩ := H
   obtain ⟨_,_,_,_,_,_,_,_,_,_⟩ := bk5 (HM.bx 3 rfl)
   obtain ⟨Xo74, ko74, rfl⟩ := HM.rdR 6 rfl
   obtain ⟨Xo75, ko75, rfl⟩ := HM.rdR 7 rfl
   obtain ⟨Xo76, ko76, rfl⟩ := HM.rdR 8 rfl
   go_wp2_with (first | ((with_reducible refine gS 4 rfl ?_); refine pS 4 4 0 [.int .i64 t524, .int .i64 t525, .slice Xo74 t526.length ko74, .slice Xo75 t529.length ko75, .slice Xo76 t532.length ko76] HM rfl rfl ?_; clear HM; intro w77 HM; replace HM := HM.toQ 8 rfl))
   refine bodyPost_ret (results_cell_row rfl _ _ gb480 26 #[.int .i64 t524, .int .i64 t525, .slice Xo74 t526.length ko74, .slice Xo75 t529.length ko75, .slice Xo76 t532.length ko76] (0, 0) _ rfl (HM.bx 4 rfl) Tryz.underlying26 rfl (by kernel_rfl)) rfl ?_
   exact ⟨_, _, _, ER, (MD HM).pick [6, 7, 8, 5, 0, 1, 2]⟩
def spec_l10Draw.l0 : Nat → Int → List Int → Int → Int → Int → Int → List (S60) → List (S60) → List Int → Option (Int × Int × (List (S60)) × (List (S60)) × List Int × Int × Int)
 | 0, _, _, _, _, _, _, _, _, _ => none
 | k + 1, x6, x1000, x1001, x1002, x556000, x556001, x556002, x556003, x556004 => if x6 > 0 then ((spec_l10Some.f k x1000 x1001 x1002 x556000 x556001 x556002 x556003 x556004).bind fun bt559 => (spec_l10Draw.l0 k (wrap64 (x6 - 1)) x1000 bt559.2.2.2.2.2.1 bt559.2.2.2.2.2.2 bt559.1 bt559.2.1 bt559.2.2.1 bt559.2.2.2.1 bt559.2.2.2.2.1)) else (some (x556000, x556001, x556002, x556003, x556004, x1001, x1002))
def spec_l10Draw.f (k : Nat) (s0_0 : List Int) (s0_1 : Int) (s0_2 : Int) : Option (Int × Int × (List (S60)) × (List (S60)) × List Int × Int × Int) := (spec_l01Below.f s0_0 s0_1 s0_2 6).bind fun bt537 => ((spec_l01Below.f s0_0 bt537.2.1 bt537.2.2 (wrap64 (1 + bt537.1))).bind fun bt540 => ((spec_ThreeNew.f k (wrap64 (1 + bt537.1)) (wrap64 (1 + bt540.1))).bind fun bt543 => ((spec_l01Below.f s0_0 bt540.2.1 bt540.2.2 24).bind fun bt556 => (spec_l10Draw.l0 k bt556.1 s0_0 bt556.2.1 bt556.2.2 bt543.1 bt543.2.1 bt543.2.2.1 bt543.2.2.2.1 bt543.2.2.2.2.1))))
theorem spec_l10Draw.calls (k : Nat) (g : Nat) (A0_0 : Option Addr) (c0_0 : Nat) (s0_0 : List Int) (s0_1 : Int) (s0_2 : Int) (r1 : Int) (r2 : Int) (r3 : List (S60)) (r4 : List (S60)) (r5 : List Int) (r6 : Int) (r7 : Int) (w0 w : World) (F : List SP) (hrs0_0 : Kd.C (Kd.int .u8) w0 A0_0 s0_0.length s0_0) (hcs0_0 : s0_0.length ≤ c0_0) (hM : Mem w0 F w [box 43 g [.slice A0_0 s0_0.length c0_0, .int .i64 s0_1, .int .i64 s0_2]]) (h : spec_l10Draw.f k s0_0 s0_1 s0_2 = some (r1, r2, r3, r4, r5, r6, r7)) :
  Calls Tryz.prog 13 #[.pointer (some ⟨g, 0, none⟩)] w fun e w' => ∃ v2_ v3_ v4_ : Value, e = .returned (.agg #[.int .i64 r1, .int .i64 r2, v2_, v3_, v4_]) ∧ Mem w0 F w' [rowR k60 60 v2_ r3, rowR k60 60 v3_ r4, row (Kd.int .i64) 3 v4_ r5, box 43 g [.slice A0_0 s0_0.length c0_0, .int .i64 r6, .int .i64 r7]] := by
 have hu26 := Tryz.underlying26
 have HRs0_0 := Aside0.mk hrs0_0
 have HCs0_0 := Aside0.mk hcs0_0
 clear hrs0_0 hcs0_0
 have HM := hM
 clear hM
 have H := h
 clear h
 unfold spec_l10Draw.f at H
 go_enter Tryz.func13, Tryz.ntmps13
 replace H := BN H; obtain ⟨⟨t537, t538, t539⟩, A3, H⟩ := H
 replace H := BN H; obtain ⟨⟨t540, t541, t542⟩, A5, H⟩ := H
 replace H := BN H; obtain ⟨⟨t543, t544, t545, t548, t551, t554⟩, A7, H⟩ := H
 replace H := BN H; obtain ⟨⟨t556, t557, t558⟩, A14, H⟩ := H
 have H' := Aside0.mk H
 clear H
 go_wp2_with (first | ((with_reducible refine gN 2 rfl ?_); refine pB 2 26 [.int .i64 0, .int .i64 0, .slice none 0 0, .slice none 0 0, .slice none 0 0] HM rfl ?_; clear HM; intro gb536 w2 HM) | ((with_reducible refine gC 30 rfl ?_); refine pC (some 8) rfl #[.pointer (some ⟨g, 0, none⟩), .int .i64 6] rfl Tryz.func30 (spec_l01Below.calls g A0_0 c0_0 s0_0 s0_1 s0_2 6 t537 t538 t539 _ _ _ HRs0_0.out HCs0_0.out (HM.focus [1] [0]) A3.out) ?_; rintro e w4 ⟨rfl, hR⟩; refine ⟨_, rfl, ?_⟩; replace HM := nzM hR.unfocus; clear hR) | ((with_reducible refine gC 30 rfl ?_); refine pC (some 14) rfl #[.pointer (some ⟨g, 0, none⟩), .int .i64 (wrap64 (1 + t537))] rfl Tryz.func30 (spec_l01Below.calls g A0_0 c0_0 s0_0 t538 t539 (wrap64 (1 + t537)) t540 t541 t542 _ _ _ HRs0_0.out HCs0_0.out (HM.focus [0] [1]) A5.out) ?_; rintro e w6 ⟨rfl, hR⟩; refine ⟨_, rfl, ?_⟩; replace HM := nzM hR.unfocus; clear hR) | ((with_reducible refine gC 31 rfl ?_); refine pC (some 16) rfl #[.int .i64 (wrap64 (1 + t537)), .int .i64 (wrap64 (1 + t540))] rfl Tryz.func31 (spec_ThreeNew.calls k (wrap64 (1 + t537)) (wrap64 (1 + t540)) t543 t544 t545 t548 t551 t554 _ A7.out) ?_; rintro e w8 ⟨v546, v549, v552, rfl, hR⟩; refine ⟨_, rfl, ?_⟩; replace HM := HM.call hR; clear hR) | ((with_reducible refine gN 4 rfl ?_); refine pB 4 26 [.int .i64 0, .int .i64 0, .slice none 0 0, .slice none 0 0, .slice none 0 0] HM rfl ?_; clear HM; intro gb555 w9 HM; obtain ⟨Xo10, ko10, rfl⟩ := HM.rdR 2 rfl; obtain ⟨Xo11, ko11, rfl⟩ := HM.rdR 3 rfl; obtain ⟨Xo12, ko12, rfl⟩ := HM.rdR 4 rfl) | ((with_reducible refine gS 4 rfl ?_); refine pS 5 4 0 [.int .i64 t543, .int .i64 t544, .slice Xo10 t545.length ko10, .slice Xo11 t548.length ko11, .slice Xo12 t551.length ko12] HM rfl rfl ?_; clear HM; intro w13 HM) | ((with_reducible refine gC 30 rfl ?_); refine pC (some 20) rfl #[.pointer (some ⟨g, 0, none⟩), .int .i64 24] rfl Tryz.func30 (spec_l01Below.calls g A0_0 c0_0 s0_0 t541 t542 24 t556 t557 t558 _ _ _ HRs0_0.out HCs0_0.out (HM.focus [0, 2, 3, 4, 5] [1]) A14.out) ?_; rintro e w15 ⟨rfl, hR⟩; refine ⟨_, rfl, ?_⟩; replace HM := nzM hR.unfocus; clear hR; replace HM := HM.toQ 3 rfl))
 go_loopg [6] k (fun kq v6 w' => ∃ (x6_1 : Int) (x1001_1 : Int) (x1002_1 : Int) (x556000_1 : Int) (x556001_1 : Int) (x556002_1 : List (S60)) (x556003_1 : List (S60)) (x556004_1 : List Int) (u556002 : Value) (u556003 : Value) (u556004 : Value), v6 = .int .i64 x6_1 ∧ Aside0 (spec_l10Draw.l0 kq x6_1 s0_0 x1001_1 x1002_1 x556000_1 x556001_1 x556002_1 x556003_1 x556004_1 = some (r1, r2, r3, r4, r5, r6, r7)) ∧ Aside0 (kq ≤ k) ∧ Mem w0 F w' [rowR k60 60 u556002 x556002_1, rowR k60 60 u556003 x556003_1, row (Kd.int .i64) 3 u556004 x556004_1, box 26 gb536 [.int .i64 0, .int .i64 0, .slice none 0 0, .slice none 0 0, .slice none 0 0], box 26 gb555 [.int .i64 x556000_1, .int .i64 x556001_1, u556002, u556003, u556004], box 43 g [.slice A0_0 s0_0.length c0_0, .int .i64 x1001_1, .int .i64 x1002_1]])
 case atStart => exact ⟨(t556), (t557), (t558), (t543), (t544), (t545), (t548), (t551), (.slice Xo10 t545.length ko10), (.slice Xo11 t548.length ko11), (.slice Xo12 t551.length ko12), RS, H', ⟨Nat.le_refl _⟩, (MD HM).pick [1, 2, 3, 0, 4, 5]⟩
 case round =>
  clear H' HM
  obtain ⟨x6_1, x1001_1, x1002_1, x556000_1, x556001_1, x556002_1, x556003_1, x556004_1, u556002, u556003, u556004, rfl, HA, HK1, HM⟩ := hrel
  cases gk with
  | zero => exact absurd HA.out (by simp [spec_l10Draw.l0])
  | succ k1 =>
   have H := HA.out
   clear HA
   simp only [spec_l10Draw.l0] at H
   go_upto_if 22 with (fail)
   replace H := IT H; rcases H with ⟨c16, H⟩ | ⟨c16, H⟩
   ·have c16b0 : decide (0 < x6_1) = true := decide_eq_true c16
    clear c16
    first|rw [c16b0]|(simp only [i64_w, i32_w]; rw [c16b0])|skip
    replace H := BN H; obtain ⟨⟨t559, t560, t561, t564, t567, t570, t571⟩, A18, H⟩ := H
    have H' := Aside0.mk H
    clear H
    obtain ⟨_,_,_,_,_,_,_,_,_,_⟩ := bk5 (HM.bx 4 rfl)
    obtain ⟨Xo20, ko20, rfl⟩ := HM.rdR 0 rfl
    replace HM := HM.toQ 0 rfl
    obtain ⟨Xo21, ko21, rfl⟩ := HM.rdR 1 rfl
    replace HM := HM.toQ 1 rfl
    obtain ⟨Xo22, ko22, rfl⟩ := HM.rd 2 rfl
    go_wp2_with (first | ((with_reducible refine gC 32 rfl ?_); refine pC (some 27) rfl #[.pointer (some ⟨g, 0, none⟩), .agg #[.int .i64 x556000_1, .int .i64 x556001_1, .slice Xo20 x556002_1.length ko20, .slice Xo21 x556003_1.length ko21, .slice Xo22 x556004_1.length ko22]] rfl Tryz.func32 (spec_l10Some.calls k1 g A0_0 c0_0 s0_0 x1001_1 x1002_1 x556000_1 x556001_1 Xo20 ko20 x556002_1 Xo21 ko21 x556003_1 Xo22 ko22 x556004_1 t559 t560 t561 t564 t567 t570 t571 _ _ _ HRs0_0.out HCs0_0.out (HM.focus [3, 4] [5, 0, 1, 2]) A18.out) ?_; rintro e w19 ⟨v562, v565, v568, rfl, hR⟩; refine ⟨_, rfl, ?_⟩; replace HM := nzM hR.unfocus; clear hR; obtain ⟨Xo23, ko23, rfl⟩ := HM.rdR 2 rfl; obtain ⟨Xo24, ko24, rfl⟩ := HM.rdR 3 rfl; obtain ⟨Xo25, ko25, rfl⟩ := HM.rd 4 rfl) | ((with_reducible refine gS 4 rfl ?_); refine pS 1 4 0 [.int .i64 t559, .int .i64 t560, .slice Xo23 t561.length ko23, .slice Xo24 t564.length ko24, .slice Xo25 t567.length ko25] HM rfl rfl ?_; clear HM; intro w26 HM))
    go_roundg k1
    case measure => have := HK1.out; omega
    case rel => exact ⟨(wrap64 (x6_1 - 1)), (t570), (t571), (t559), (t560), (t561), (t564), (t567), (.slice Xo23 t561.length ko23), (.slice Xo24 t564.length ko24), (.slice Xo25 t567.length ko25), RS, H', ⟨by have := HK1.out; omega⟩, (MD HM).pick [2, 3, 4, 0, 1, 5]⟩
   ·have c16b0 : decide (0 < x6_1) = false := decide_eq_false c16
    clear c16
    first|rw [c16b0]|(simp only [i64_w, i32_w]; rw [c16b0])|skip
    simp only [Option.some.injEq, Prod.mk.injEq] at H
    obtain ⟨rfl, rfl, rfl, rfl, rfl, rfl, rfl⟩ := H
    obtain ⟨_,_,_,_,_,_,_,_,_,_⟩ := bk5 (HM.bx 4 rfl)
    obtain ⟨Xo28, ko28, rfl⟩ := HM.rdR 0 rfl
    obtain ⟨Xo29, ko29, rfl⟩ := HM.rdR 1 rfl
    obtain ⟨Xo30, ko30, rfl⟩ := HM.rd 2 rfl
    go_wp2_with (first | ((with_reducible refine gS 2 rfl ?_); refine pS 3 2 0 [.int .i64 x556000_1, .int .i64 x556001_1, .slice Xo28 x556002_1.length ko28, .slice Xo29 x556003_1.length ko29, .slice Xo30 x556004_1.length ko30] HM rfl rfl ?_; clear HM; intro w31 HM))
    refine bodyPost_ret (results_cell_row rfl _ _ gb536 26 #[.int .i64 x556000_1, .int .i64 x556001_1, .slice Xo28 x556002_1.length ko28, .slice Xo29 x556003_1.length ko29, .slice Xo30 x556004_1.length ko30] (0, 0) _ rfl (HM.bx 3 rfl) Tryz.underlying26 rfl (by kernel_rfl)) rfl ?_
    exact ⟨_, _, _, ER, (MD HM).pick [0, 1, 2, 5]⟩
def spec_MakeThree.f (k : Nat) (l0 : List Int) : Option (Int × Int × (List (S60)) × (List (S60)) × List Int) := (spec_l01New.f k l0).bind fun bt573 => ((spec_l10Draw.f k bt573.1 bt573.2.1 (wrap64 (bt573.2.2 + 41))).bind fun bt577 => (some (bt577.1, bt577.2.1, bt577.2.2.1, bt577.2.2.2.1, bt577.2.2.2.2.1)))
theorem spec_MakeThree.calls (k : Nat) (A0 : Option Addr) (c0 : Nat) (l0 : List Int) (r1 : Int) (r2 : Int) (r3 : List (S60)) (r4 : List (S60)) (r5 : List Int) (w : World) (hr0 : Kd.C (Kd.int .u8) w A0 l0.length l0) (hc0 : l0.length ≤ c0) (h : spec_MakeThree.f k l0 = some (r1, r2, r3, r4, r5)) :
  Calls Tryz.prog 4 #[.slice A0 l0.length c0] w fun e w' => ∃ v2_ v3_ v4_ : Value, e = .returned (.agg #[.int .i64 r1, .int .i64 r2, v2_, v3_, v4_]) ∧ Mem w [] w' [rowR k60 60 v2_ r3, rowR k60 60 v3_ r4, row (Kd.int .i64) 3 v4_ r5] := by
 have hu26 := Tryz.underlying26
 have HR0 := Aside0.mk hr0
 have HC0 := Aside0.mk hc0
 clear hr0 hc0
 have HM := Mem.nil w
 have H := h
 clear h
 unfold spec_MakeThree.f at H
 go_enter Tryz.func4, Tryz.ntmps4
 replace H := BN H; obtain ⟨⟨t573, t574, t575⟩, A3, H⟩ := H
 replace H := BN H; obtain ⟨⟨t577, t578, t579, t582, t585, t588, t589⟩, A8, H⟩ := H
 simp only [Option.some.injEq, Prod.mk.injEq] at H
 obtain ⟨rfl, rfl, rfl, rfl, rfl⟩ := H
 go_wp2_with (first | ((with_reducible refine gN 2 rfl ?_); refine pB 2 26 [.int .i64 0, .int .i64 0, .slice none 0 0, .slice none 0 0, .slice none 0 0] HM rfl ?_; clear HM; intro gb572 w2 HM) | ((with_reducible refine gC 12 rfl ?_); refine pC (some 6) rfl #[.slice A0 l0.length c0] rfl Tryz.func12 (spec_l01New.calls k _ _ l0 t573 t574 t575 _ _ HM.bel HR0.out HC0.out A3.out) ?_; rintro e w4 ⟨gb576, Xn5, kn5, rfl, hR, hRn5, hCn5⟩; refine ⟨_, rfl, ?_⟩; have HRn5 := Aside0.mk hRn5; have HCn5 := Aside0.mk hCn5; clear hRn5 hCn5; replace HM := HM.call hR; clear hR; obtain ⟨_,_,_,_,_,_⟩ := bk3 (HM.bx 1 rfl)) | ((with_reducible refine gS 14 rfl ?_); refine pS 1 14 2 [.int .i64 (wrap64 (t575 + 41))] HM rfl rfl ?_; clear HM; intro w7 HM) | ((with_reducible refine gC 13 rfl ?_); refine pC (some 16) rfl #[.pointer (some ⟨gb576, 0, none⟩)] rfl Tryz.func13 (spec_l10Draw.calls k gb576 Xn5 kn5 t573 t574 (wrap64 (t575 + 41)) t577 t578 t579 t582 t585 t588 t589 _ _ _ HRn5.out HCn5.out (HM.focus [0] [1]) A8.out) ?_; rintro e w9 ⟨v580, v583, v586, rfl, hR⟩; refine ⟨_, rfl, ?_⟩; replace HM := nzM hR.unfocus; clear hR) | ((with_reducible refine gN 4 rfl ?_); refine pB 4 26 [.int .i64 0, .int .i64 0, .slice none 0 0, .slice none 0 0, .slice none 0 0] HM rfl ?_; clear HM; intro gb590 w10 HM; obtain ⟨Xo11, ko11, rfl⟩ := HM.rdR 1 rfl; obtain ⟨Xo12, ko12, rfl⟩ := HM.rdR 2 rfl; obtain ⟨Xo13, ko13, rfl⟩ := HM.rd 3 rfl) | ((with_reducible refine gS 4 rfl ?_); refine pS 5 4 0 [.int .i64 t577, .int .i64 t578, .slice Xo11 t579.length ko11, .slice Xo12 t582.length ko12, .slice Xo13 t585.length ko13] HM rfl rfl ?_; clear HM; intro w14 HM; obtain ⟨_,_,_,_,_,_,_,_,_,_⟩ := bk5 (HM.bx 5 rfl)) | ((with_reducible refine gS 2 rfl ?_); refine pS 0 2 0 [.int .i64 t577, .int .i64 t578, .slice Xo11 t579.length ko11, .slice Xo12 t582.length ko12, .slice Xo13 t585.length ko13] HM rfl rfl ?_; clear HM; intro w16 HM))
 refine bodyPost_ret (results_cell_row rfl _ _ gb572 26 #[.int .i64 t577, .int .i64 t578, .slice Xo11 t579.length ko11, .slice Xo12 t582.length ko12, .slice Xo13 t585.length ko13] (0, 0) _ rfl (HM.bx 0 rfl) Tryz.underlying26 rfl (by kernel_rfl)) rfl ?_
 exact ⟨_, _, _, ER, (MD HM).pick [1, 2, 3]⟩
def spec_l16Op.f (s0_0 : List Int) (s0_1 : Int) (s0_2 : Int) : Option (Int × ByteArray × ByteArray × Int × Int) := (spec_l01Below.f s0_0 s0_1 s0_2 3).bind fun bt1103 => ((spec_l10Key.f s0_0 bt1103.2.1 bt1103.2.2).bind fun bt1106 => (if (wrap64 (1 + bt1103.1)) = 2 then ((spec_l10Val.f s0_0 bt1106.2.1 bt1106.2.2).bind fun bt1110 => (some (wrap64 (1 + bt1103.1), bt1106.1, bt1110.1, bt1110.2.1, bt1110.2.2))) else (some (wrap64 (1 + bt1103.1), bt1106.1, (⟨#[]⟩ : ByteArray), bt1106.2.1, bt1106.2.2))))
theorem spec_l16Op.calls (g : Nat) (A0_0 : Option Addr) (c0_0 : Nat) (s0_0 : List Int) (s0_1 : Int) (s0_2 : Int) (r1 : Int) (r2 : ByteArray) (r3 : ByteArray) (r4 : Int) (r5 : Int) (w0 w : World) (F : List SP) (hrs0_0 : Kd.C (Kd.int .u8) w0 A0_0 s0_0.length s0_0) (hcs0_0 : s0_0.length ≤ c0_0) (hM : Mem w0 F w [box 43 g [.slice A0_0 s0_0.length c0_0, .int .i64 s0_1, .int .i64 s0_2]]) (h : spec_l16Op.f s0_0 s0_1 s0_2 = some (r1, r2, r3, r4, r5)) :
  Calls Tryz.prog 42 #[.pointer (some ⟨g, 0, none⟩)] w fun e w' => e = .returned (.agg #[.int .i64 r1, .string r2, .string r3]) ∧ Mem w0 F w' [box 43 g [.slice A0_0 s0_0.length c0_0, .int .i64 r4, .int .i64 r5]] := by
 have hu52 := Tryz.underlying52
 have HRs0_0 := Aside0.mk hrs0_0
 have HCs0_0 := Aside0.mk hcs0_0
 clear hrs0_0 hcs0_0
 have HM := hM
 clear hM
 have H := h
 clear h
 unfold spec_l16Op.f at H
 go_enter Tryz.func42, Tryz.ntmps42
 replace H := BN H; obtain ⟨⟨t1103, t1104, t1105⟩, A3, H⟩ := H
 replace H := BN H; obtain ⟨⟨t1106, t1107, t1108⟩, A5, H⟩ := H
 go_upto_if 12 with (first | ((with_reducible refine gN 2 rfl ?_); refine pB 2 52 [.int .i64 0, .string (⟨#[]⟩ : ByteArray), .string (⟨#[]⟩ : ByteArray)] HM rfl ?_; clear HM; intro gb1102 w2 HM) | ((with_reducible refine gC 30 rfl ?_); refine pC (some 5) rfl #[.pointer (some ⟨g, 0, none⟩), .int .i64 3] rfl Tryz.func30 (spec_l01Below.calls g A0_0 c0_0 s0_0 s0_1 s0_2 3 t1103 t1104 t1105 _ _ _ HRs0_0.out HCs0_0.out (HM.focus [1] [0]) A3.out) ?_; rintro e w4 ⟨rfl, hR⟩; refine ⟨_, rfl, ?_⟩; replace HM := nzM hR.unfocus; clear hR) | ((with_reducible refine gC 49 rfl ?_); refine pC (some 8) rfl #[.pointer (some ⟨g, 0, none⟩)] rfl Tryz.func49 (spec_l10Key.calls g A0_0 c0_0 s0_0 t1104 t1105 t1106 t1107 t1108 _ _ _ HRs0_0.out HCs0_0.out (HM.focus [0] [1]) A5.out) ?_; rintro e w6 ⟨rfl, hR⟩; refine ⟨_, rfl, ?_⟩; replace HM := nzM hR.unfocus; clear hR) | ((with_reducible refine gN 3 rfl ?_); refine pB 3 52 [.int .i64 0, .string (⟨#[]⟩ : ByteArray), .string (⟨#[]⟩ : ByteArray)] HM rfl ?_; clear HM; intro gb1109 w7 HM) | ((with_reducible refine gS 3 rfl ?_); refine pS 2 3 0 [.int .i64 (wrap64 (1 + t1103)), .string t1106, .string (⟨#[]⟩ : ByteArray)] HM rfl rfl ?_; clear HM; intro w8 HM; obtain ⟨_,_,_,_,_,_⟩ := bk3 (HM.bx 2 rfl)))
 replace HM := nzM HM
 replace H := IT H; rcases H with ⟨c10, H⟩ | ⟨c10, H⟩
 ·have c10b0 : ((wrap64 (1 + t1103)) == 2) = true := beq_iff_eq.mpr c10
  have c10b1 : ((wrap64 (1 + t1103)) != 2) = false := bne_eq_false_iff_eq.mpr c10
  clear c10
  first|rw [c10b0]|(simp only [i64_w, i32_w]; rw [c10b0])|skip
  replace H := BN H; obtain ⟨⟨t1110, t1111, t1112⟩, A11, H⟩ := H
  simp only [Option.some.injEq, Prod.mk.injEq] at H
  obtain ⟨rfl, rfl, rfl, rfl, rfl⟩ := H
  go_wp2_with (first | ((with_reducible refine gC 50 rfl ?_); refine pC (some 14) rfl #[.pointer (some ⟨g, 0, none⟩)] rfl Tryz.func50 (spec_l10Val.calls g A0_0 c0_0 s0_0 t1107 t1108 t1110 t1111 t1112 _ _ _ HRs0_0.out HCs0_0.out (HM.focus [0, 2] [1]) A11.out) ?_; rintro e w12 ⟨rfl, hR⟩; refine ⟨_, rfl, ?_⟩; replace HM := nzM hR.unfocus; clear hR) | ((with_reducible refine gS 15 rfl ?_); refine pS 1 15 2 [.string t1110] HM rfl rfl ?_; clear HM; intro w13 HM; obtain ⟨_,_,_,_,_,_⟩ := bk3 (HM.bx 1 rfl)) | ((with_reducible refine gS 2 rfl ?_); refine pS 0 2 0 [.int .i64 (wrap64 (1 + t1103)), .string t1106, .string t1110] HM rfl rfl ?_; clear HM; intro w15 HM))
  refine bodyPost_ret (results_cell_row rfl _ _ gb1102 52 #[.int .i64 (wrap64 (1 + t1103)), .string t1106, .string t1110] (0, 0) _ rfl (HM.bx 0 rfl) Tryz.underlying52 rfl (by kernel_rfl)) rfl ?_
  exact ⟨ER, (MD HM).pick [2]⟩
 ·have c10b0 : ((wrap64 (1 + t1103)) == 2) = false := beq_eq_false_iff_ne.mpr c10
  have c10b1 : ((wrap64 (1 + t1103)) != 2) = true := bne_iff_ne.mpr c10
  first|rw [c10b0]|(simp only [i64_w, i32_w]; rw [c10b0])|skip
  simp only [Option.some.injEq, Prod.mk.injEq] at H
  obtain ⟨rfl, rfl, rfl, rfl, rfl⟩ := H
  go_wp2_with (first | ((with_reducible refine gS 2 rfl ?_); refine pS 0 2 0 [.int .i64 (wrap64 (1 + t1103)), .string t1106, .string (⟨#[]⟩ : ByteArray)] HM rfl rfl ?_; clear HM; intro w16 HM))
  refine bodyPost_ret (results_cell_row rfl _ _ gb1102 52 #[.int .i64 (wrap64 (1 + t1103)), .string t1106, .string (⟨#[]⟩ : ByteArray)] (0, 0) _ rfl (HM.bx 0 rfl) Tryz.underlying52 rfl (by kernel_rfl)) rfl ?_
  exact ⟨ER, (MD HM).pick [1]⟩
def spec_l16Ops.l0 : Nat → List (S52) → Int → List Int → Int → Int → Option ((List (S52)) × Int × Int)
 | 0, _, _, _, _, _ => none
 | k + 1, x5, x6, x1000, x1001, x1002 => if x6 > 0 then ((spec_l16Op.f x1000 x1001 x1002).bind fun bt1119 => (if x5.length < 3518437208883 then (spec_l16Ops.l0 k (x5 ++ [(⟨bt1119.1, bt1119.2.1, bt1119.2.2.1⟩ : S52)]) (wrap64 (x6 - 1)) x1000 bt1119.2.2.2.1 bt1119.2.2.2.2) else (none))) else (some (x5, x1001, x1002))
def spec_l16Ops.f (k : Nat) (s0_0 : List Int) (s0_1 : Int) (s0_2 : Int) (a1 : Int) : Option ((List (S52)) × Int × Int) := (spec_l01Below.f s0_0 s0_1 s0_2 (wrap64 (a1 + 1))).bind fun bt1116 => (spec_l16Ops.l0 k (([] : List (S52))) bt1116.1 s0_0 bt1116.2.1 bt1116.2.2)
theorem spec_l16Ops.calls (k : Nat) (g : Nat) (A0_0 : Option Addr) (c0_0 : Nat) (s0_0 : List Int) (s0_1 : Int) (s0_2 : Int) (a1 : Int) (r1 : List (S52)) (r2 : Int) (r3 : Int) (w0 w : World) (F : List SP) (hrs0_0 : Kd.C (Kd.int .u8) w0 A0_0 s0_0.length s0_0) (hcs0_0 : s0_0.length ≤ c0_0) (hM : Mem w0 F w [box 43 g [.slice A0_0 s0_0.length c0_0, .int .i64 s0_1, .int .i64 s0_2]]) (h : spec_l16Ops.f k s0_0 s0_1 s0_2 a1 = some (r1, r2, r3)) :
  Calls Tryz.prog 20 #[.pointer (some ⟨g, 0, none⟩), .int .i64 a1] w fun e w' => ∃ v0_ : Value, e = .returned (v0_) ∧ Mem w0 F w' [rowR k52 52 v0_ r1, box 43 g [.slice A0_0 s0_0.length c0_0, .int .i64 r2, .int .i64 r3]] := by
 have HRs0_0 := Aside0.mk hrs0_0
 have HCs0_0 := Aside0.mk hcs0_0
 clear hrs0_0 hcs0_0
 have HM := hM
 clear hM
 have H := h
 clear h
 unfold spec_l16Ops.f at H
 go_enter Tryz.func20, Tryz.ntmps20
 replace H := BN H; obtain ⟨⟨t1116, t1117, t1118⟩, A4, H⟩ := H
 have H' := Aside0.mk H
 clear H
 go_wp2_with (first | ((with_reducible refine gN 7 rfl ?_); refine pL 7 k52 52 ([] : List (S52)) [] (Reps.none _ _) HM rfl ?_; clear HM; intro v1114 w3 HM) | ((with_reducible refine gC 30 rfl ?_); refine pC (some 11) rfl #[.pointer (some ⟨g, 0, none⟩), .int .i64 (wrap64 (a1 + 1))] rfl Tryz.func30 (spec_l01Below.calls g A0_0 c0_0 s0_0 s0_1 s0_2 (wrap64 (a1 + 1)) t1116 t1117 t1118 _ _ _ HRs0_0.out HCs0_0.out (HM.focus [1] [0]) A4.out) ?_; rintro e w5 ⟨rfl, hR⟩; refine ⟨_, rfl, ?_⟩; replace HM := nzM hR.unfocus; clear hR))
 go_loopg [5, 6] k (fun kq v5 v6 w' => ∃ (x5_1 : List (S52)) (x6_1 : Int) (x1001_1 : Int) (x1002_1 : Int), v6 = .int .i64 x6_1 ∧ Aside0 (spec_l16Ops.l0 kq x5_1 x6_1 s0_0 x1001_1 x1002_1 = some (r1, r2, r3)) ∧ Aside0 (kq ≤ k) ∧ Mem w0 F w' [rowR k52 52 v5 x5_1, box 43 g [.slice A0_0 s0_0.length c0_0, .int .i64 x1001_1, .int .i64 x1002_1]])
 case atStart => exact ⟨((([] : List (S52)))), (t1116), (t1117), (t1118), RS, H', ⟨Nat.le_refl _⟩, (MD HM).pick [0, 1]⟩
 case round =>
  clear H' HM
  obtain ⟨x5_1, x6_1, x1001_1, x1002_1, rfl, HA, HK1, HM⟩ := hrel
  cases gk with
  | zero => exact absurd HA.out (by simp [spec_l16Ops.l0])
  | succ k1 =>
   have H := HA.out
   clear HA
   simp only [spec_l16Ops.l0] at H
   go_upto_if 13 with (fail)
   replace H := IT H; rcases H with ⟨c6, H⟩ | ⟨c6, H⟩
   ·have c6b0 : decide (0 < x6_1) = true := decide_eq_true c6
    clear c6
    first|rw [c6b0]|(simp only [i64_w, i32_w]; rw [c6b0])|skip
    replace H := BN H; obtain ⟨⟨t1119, t1120, t1121, t1122, t1123⟩, A7, H⟩ := H
    replace H := GD H; obtain ⟨c9, H⟩ := H
    have LMc9 := Aside0.mk c9
    clear c9
    have H' := Aside0.mk H
    clear H
    go_wp2_with (first | ((with_reducible refine gC 42 rfl ?_); refine pC (some 18) rfl #[.pointer (some ⟨g, 0, none⟩)] rfl Tryz.func42 (spec_l16Op.calls g A0_0 c0_0 s0_0 x1001_1 x1002_1 t1119 t1120 t1121 t1122 t1123 _ _ _ HRs0_0.out HCs0_0.out (HM.focus [0] [1]) A7.out) ?_; rintro e w8 ⟨rfl, hR⟩; refine ⟨_, rfl, ?_⟩; replace HM := nzM hR.unfocus; clear hR) | ((with_reducible refine gN 19 rfl ?_); refine pL 19 k52 52 [(⟨t1119, t1120, t1121⟩ : S52)] [.int .i64 t1119, .string t1120, .string t1121] (Reps.c3 (show Kd.M k52 _ _ _ (⟨t1119, t1120, t1121⟩ : S52) [.int .i64 t1119, .string t1120, .string t1121] from (k52_mkM _ _ _ (⟨t1119, t1120, t1121⟩ : S52))) (Reps.none _ _)) HM rfl ?_; clear HM; intro v11 w10 HM; obtain ⟨Xv11, kv11, rfl⟩ := HM.rdR 2 rfl) | ((with_reducible refine gate_builtin (b := .append) (xs := #[.tmp 16, .tmp 19]) rfl ?_); refine pA 0 (.tmp 16) (.tmp 19) 34 52 k52 u5 x5_1 [(⟨t1119, t1120, t1121⟩ : S52)] Xv11 ([(⟨t1119, t1120, t1121⟩ : S52)].length) kv11 HM rfl Tryz.underlying34 info52 rfl (HM.CR 2 rfl).2.2 (by have h_ := LMc9.out; simp only [List.length_singleton]; omega) ?_; clear HM; intro v1125 w12 HM))
    go_roundg k1
    case measure => have := HK1.out; omega
    case rel => exact ⟨((x5_1 ++ [(⟨t1119, t1120, t1121⟩ : S52)])), (wrap64 (x6_1 - 1)), (t1122), (t1123), RS, H', ⟨by have := HK1.out; omega⟩, (MD HM).pick [0, 1]⟩
   ·have c6b0 : decide (0 < x6_1) = false := decide_eq_false c6
    clear c6
    first|rw [c6b0]|(simp only [i64_w, i32_w]; rw [c6b0])|skip
    simp only [Option.some.injEq, Prod.mk.injEq] at H
    obtain ⟨rfl, rfl, rfl⟩ := H
    go_wp2
    go_ret
    exact ⟨_, ER, (MD HM).pick [0, 1]⟩
def spec_MakeOps.f (k : Nat) (l0 : List Int) (a1 : Int) : Option ((List (S52))) := (spec_l01New.f k l0).bind fun bt1127 => ((spec_l16Ops.f k bt1127.1 bt1127.2.1 (wrap64 (bt1127.2.2 + 91)) a1).bind fun bt1131 => (some bt1131.1))
theorem spec_MakeOps.calls (k : Nat) (A0 : Option Addr) (c0 : Nat) (l0 : List Int) (a1 : Int) (r : List (S52)) (w : World) (hr0 : Kd.C (Kd.int .u8) w A0 l0.length l0) (hc0 : l0.length ≤ c0) (h : spec_MakeOps.f k l0 a1 = some r) :
  Calls Tryz.prog 8 #[.slice A0 l0.length c0, .int .i64 a1] w fun e w' => ∃ v0_ : Value, e = .returned (v0_) ∧ Mem w [] w' [rowR k52 52 v0_ r] := by
 have HR0 := Aside0.mk hr0
 have HC0 := Aside0.mk hc0
 clear hr0 hc0
 have HM := Mem.nil w
 have H := h
 clear h
 unfold spec_MakeOps.f at H
 go_enter Tryz.func8, Tryz.ntmps8
 replace H := BN H; obtain ⟨⟨t1127, t1128, t1129⟩, A3, H⟩ := H
 replace H := BN H; obtain ⟨⟨t1131, t1134, t1135⟩, A8, H⟩ := H
 obtain rfl := Option.some.inj H
 go_wp2_with (first | ((with_reducible refine gC 12 rfl ?_); refine pC (some 8) rfl #[.slice A0 l0.length c0] rfl Tryz.func12 (spec_l01New.calls k _ _ l0 t1127 t1128 t1129 _ _ HM.bel HR0.out HC0.out A3.out) ?_; rintro e w4 ⟨gb1130, Xn5, kn5, rfl, hR, hRn5, hCn5⟩; refine ⟨_, rfl, ?_⟩; have HRn5 := Aside0.mk hRn5; have HCn5 := Aside0.mk hCn5; clear hRn5 hCn5; replace HM := HM.call hR; clear hR; obtain ⟨_,_,_,_,_,_⟩ := bk3 (HM.bx 0 rfl)) | ((with_reducible refine gS 16 rfl ?_); refine pS 0 16 2 [.int .i64 (wrap64 (t1129 + 91))] HM rfl rfl ?_; clear HM; intro w7 HM) | ((with_reducible refine gC 20 rfl ?_); refine pC (some 19) rfl #[.pointer (some ⟨gb1130, 0, none⟩), .int .i64 a1] rfl Tryz.func20 (spec_l16Ops.calls k gb1130 Xn5 kn5 t1127 t1128 (wrap64 (t1129 + 91)) a1 t1131 t1134 t1135 _ _ _ HRn5.out HCn5.out (HM.focus [] [0]) A8.out) ?_; rintro e w9 ⟨v1132, rfl, hR⟩; refine ⟨_, rfl, ?_⟩; replace HM := nzM hR.unfocus; clear hR))
 go_ret
 exact ⟨_, ER, (MD HM).pick [0]⟩
end Go.Proofs.YtnlnifpehndacaaGreat.G
