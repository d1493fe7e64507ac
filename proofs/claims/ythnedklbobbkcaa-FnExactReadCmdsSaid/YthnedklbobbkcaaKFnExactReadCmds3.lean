/- Part 3 of the claim FnExactReadCmds, merged by pack.py (this session's program) out of: the print's words, cut to what is needed; texts that gen.py printed (it runs the kit's print in place); texts of this session. -/
import Derived.Test.YthnedklbobbkcaaKFnExactReadCmds1
import Derived.Test.YthnedklbobbkcaaKFnExactReadCmds2
namespace Go.Proofs.Ythnedklbobbkcaa.Mm
end Go.Proofs.Ythnedklbobbkcaa.Mm
namespace Go.Proofs.Ythnedklbobbkcaa.Sh
end Go.Proofs.Ythnedklbobbkcaa.Sh
set_option maxHeartbeats 8000000
set_option maxRecDepth 100000
namespace Go.Proofs.Ythnedklbobbkcaa.G
open Go.RowKit Go.Proofs.YthnedklbobbkcaaW.PrintWords Go.Proofs.YthnedklbobbkcaaW.PrintLast Go.Proofs.YthnedklbobbkcaaW.PrintMore Go.Proofs.Ythnedklbobbkcaa.Sh
attribute [local go_sem] max2_int min2_int max_two min_two max_three min_three max_four min_four
set_option linter.unusedVariables false
set_option linter.unusedSimpArgs false
open Go.Proofs.Ythnedklbobbkcaa.Mm
def laws_markCmdS.l0 : Nat → List (S55) → Int → Int → Option (Int × (List (S55)))
 | 0, _, _, _ => none
 | k + 1, x0, x1, x5 => if x5 < (x0.length : Int) then (if 0 ≤ x5 then ((some (x0.set (x5 : Int).toNat (⟨x1, (rd_T55 x0 x5).f1, (rd_T55 x0 x5).f2, (⟨(rd_T55 x0 x5).f3.f0, (rd_T55 x0 x5).f3.f1, (rd_T55 x0 x5).f3.f2⟩ : S43), (rd_T55 x0 x5).f4⟩ : S55) : List (S55))).bind fun y387 => ((some (y387.set (x5 : Int).toNat (⟨(rd_T55 y387 x5).f0, wrap64 (x1 + 1), (rd_T55 y387 x5).f2, (⟨(rd_T55 y387 x5).f3.f0, (rd_T55 y387 x5).f3.f1, (rd_T55 y387 x5).f3.f2⟩ : S43), (rd_T55 y387 x5).f4⟩ : S55) : List (S55))).bind fun y388 => ((some (y388.set (x5 : Int).toNat (⟨(rd_T55 y388 x5).f0, (rd_T55 y388 x5).f1, wrap64 ((wrap64 (x1 + 1)) + 1), (⟨(rd_T55 y388 x5).f3.f0, (rd_T55 y388 x5).f3.f1, (rd_T55 y388 x5).f3.f2⟩ : S43), (rd_T55 y388 x5).f4⟩ : S55) : List (S55))).bind fun y389 => ((some (y389.set (x5 : Int).toNat (⟨(rd_T55 y389 x5).f0, (rd_T55 y389 x5).f1, (rd_T55 y389 x5).f2, (⟨wrap64 ((wrap64 ((wrap64 (x1 + 1)) + 1)) + 1), (rd_T55 y389 x5).f3.f1, (rd_T55 y389 x5).f3.f2⟩ : S43), (rd_T55 y389 x5).f4⟩ : S55) : List (S55))).bind fun y390 => ((laws_markText.f k (wrap64 ((wrap64 ((wrap64 ((wrap64 (x1 + 1)) + 1)) + 1)) + 1))).bind fun t391 => ((some (y390.set (x5 : Int).toNat (⟨(rd_T55 y390 x5).f0, (rd_T55 y390 x5).f1, (rd_T55 y390 x5).f2, (⟨(rd_T55 y390 x5).f3.f0, t391, (rd_T55 y390 x5).f3.f2⟩ : S43), (rd_T55 y390 x5).f4⟩ : S55) : List (S55))).bind fun y392 => ((laws_markText.f k (wrap64 ((wrap64 ((wrap64 ((wrap64 ((wrap64 (x1 + 1)) + 1)) + 1)) + 1)) + 1))).bind fun t393 => ((some (y392.set (x5 : Int).toNat (⟨(rd_T55 y392 x5).f0, (rd_T55 y392 x5).f1, (rd_T55 y392 x5).f2, (⟨(rd_T55 y392 x5).f3.f0, (rd_T55 y392 x5).f3.f1, t393⟩ : S43), (rd_T55 y392 x5).f4⟩ : S55) : List (S55))).bind fun y394 => ((laws_markStringS.f k ((rd_T55 y394 x5).f4) (wrap64 ((wrap64 ((wrap64 ((wrap64 ((wrap64 ((wrap64 (x1 + 1)) + 1)) + 1)) + 1)) + 1)) + 1))).bind fun bt396 => (laws_markCmdS.l0 k (y394.set (x5 : Int).toNat (⟨(rd_T55 y394 x5).f0, (rd_T55 y394 x5).f1, (rd_T55 y394 x5).f2, (⟨(rd_T55 y394 x5).f3.f0, (rd_T55 y394 x5).f3.f1, (rd_T55 y394 x5).f3.f2⟩ : S43), bt396.2⟩ : S55)) bt396.1 (wrap64 (x5 + 1)))))))))))) else (none)) else (some (x1, x0))
def laws_markCmdS.f (k : Nat) (l0 : List (S55)) (a1 : Int) : Option (Int × (List (S55))) := laws_markCmdS.l0 k l0 a1 0
theorem laws_markCmdS.calls (k : Nat) (u9000_ : Value) (l0 : List (S55)) (a1 : Int) (r1 : Int) (r2 : List (S55)) (w0 w : World) (F : List SP)  (hM : Mem w0 F w [rr x55 55 u9000_ l0]) (h : laws_markCmdS.f k l0 a1 = some (r1, r2)) :
  Calls Try.prog 11 #[u9000_, .int .i64 a1] w fun e w' => e = .returned (.int .i64 r1) ∧ Mem w0 F w' [rr x55 55 u9000_ r2] := by
 have HM := hM
 clear hM
 have H := h
 clear h
 unfold laws_markCmdS.f at H
 go_enter Try.func11, Try.ntmps11
 have H' := Aside0.mk H
 clear H
 go_wp2
 go_loopg [1, 5] k (fun kq v1 v5 w' => ∃ (x0_1 : List (S55)) (x1_1 : Int) (x5_1 : Int), v1 = .int .i64 x1_1 ∧ v5 = .int .i64 x5_1 ∧ Aside0 (laws_markCmdS.l0 kq x0_1 x1_1 x5_1 = some (r1, r2)) ∧ Aside0 (kq ≤ k) ∧ Mem w0 F w' [rr x55 55 u9000_ x0_1])
 case atStart => exact ⟨(l0), (a1), (0), RS, RS, H', ⟨Nat.le_refl _⟩, (MD HM).pick [0]⟩
 case round =>
  clear H' HM
  obtain ⟨x0_1, x1_1, x5_1, rfl, rfl, HA, HK1, HM⟩ := hrel
  cases gk with
  | zero => exact absurd HA.out (by simp [laws_markCmdS.l0])
  | succ k1 =>
   have H := HA.out
   clear HA
   simp only [laws_markCmdS.l0] at H
   obtain ⟨Xo3, ko3, rfl⟩ := HM.rdRR 0 rfl
   go_upto_if 9 with (fail)
   replace H := IT H; rcases H with ⟨c4, H⟩ | ⟨c4, H⟩
   ·have c4b0 := decide_eq_true c4
    clear c4
    first|rw [c4b0]|(simp only [i64_w, i32_w]; rw [c4b0])|skip
    replace H := GD H; obtain ⟨c5, H⟩ := H
    have c5b0 := decide_eq_true c5
    clear c5
    replace H := BLt H; obtain ⟨y387, Ny387, H⟩ := H
    replace Ny387 := Aside0.mk Ny387
    replace H := BLt H; obtain ⟨y388, Ny388, H⟩ := H
    replace Ny388 := Aside0.mk Ny388
    replace H := BLt H; obtain ⟨y389, Ny389, H⟩ := H
    replace Ny389 := Aside0.mk Ny389
    replace H := BLt H; obtain ⟨y390, Ny390, H⟩ := H
    replace Ny390 := Aside0.mk Ny390
    replace H := BN H; obtain ⟨t391, A14, H⟩ := H
    replace H := BLt H; obtain ⟨y392, Ny392, H⟩ := H
    replace Ny392 := Aside0.mk Ny392
    replace H := BN H; obtain ⟨t393, A18, H⟩ := H
    replace H := BLt H; obtain ⟨y394, Ny394, H⟩ := H
    replace Ny394 := Aside0.mk Ny394
    replace H := BN H; obtain ⟨⟨t396, t397⟩, A22, H⟩ := H
    have H' := Aside0.mk H
    clear H
    have p6 : 0 ≤ (x5_1 : Int) := of_decide_eq_true AS
    have q6 : (x5_1 : Int) < ((x0_1.length : Int) : Int) := of_decide_eq_true AS
    obtain ⟨go6, ef6⟩ := HM.formRR 0 rfl (by have h_ := (HM.CRR 0 rfl).1; omega)
    subst ef6
    clear p6 q6
    have p6 : 0 ≤ (x5_1 : Int) := of_decide_eq_true AS
    have q6 : (x5_1 : Int) < (x0_1.length : Int) := of_decide_eq_true AS
    obtain ⟨ad6, A6_6, c6_6, e6, hx6_0, hx6_1, hx6_2, hx6_3, hx6_4, hx6_5, hx6_6, l6_6, g6_6⟩ := at_T55 (HM.CRR 0 rfl).2.2 x5_1 p6 q6
    obtain rfl := Option.some.inj e6
    (first | simp only [add_plain] at hx6_0 | simp only [add_at] at hx6_0 | simp only [Addr.add, Nat.zero_add] at hx6_0 | skip)
    (first | simp only [add_plain] at hx6_1 | simp only [add_at] at hx6_1 | simp only [Addr.add, Nat.zero_add] at hx6_1 | skip)
    (first | simp only [add_plain] at hx6_2 | simp only [add_at] at hx6_2 | simp only [Addr.add, Nat.zero_add] at hx6_2 | skip)
    (first | simp only [add_plain] at hx6_3 | simp only [add_at] at hx6_3 | simp only [Addr.add, Nat.zero_add] at hx6_3 | skip)
    (first | simp only [add_plain] at hx6_4 | simp only [add_at] at hx6_4 | simp only [Addr.add, Nat.zero_add] at hx6_4 | skip)
    (first | simp only [add_plain] at hx6_5 | simp only [add_at] at hx6_5 | simp only [Addr.add, Nat.zero_add] at hx6_5 | skip)
    (first | simp only [add_plain] at hx6_6 | simp only [add_at] at hx6_6 | simp only [Addr.add, Nat.zero_add] at hx6_6 | skip)
    replace p6 := eq_true p6
    replace q6 := eq_true q6
    go_wp2_with (first | ((with_reducible refine gS 16 rfl ?_); refine pPX [] 0 16 (x5_1 : Int) 0 [.int .i64 x1_1] x55 55 x0_1 (⟨x1_1, (rd_T55 x0_1 x5_1).f1, (rd_T55 x0_1 x5_1).f2, (⟨(rd_T55 x0_1 x5_1).f3.f0, (rd_T55 x0_1 x5_1).f3.f1, (rd_T55 x0_1 x5_1).f3.f2⟩ : S43), (rd_T55 x0_1 x5_1).f4⟩ : S55) z55 HM rfl (by kernel_rfl) rfl (of_decide_eq_true AS) (by have h_ : (x5_1 : Int) < ((x0_1.length : Int) : Int) := of_decide_eq_true AS; have e_ := (HM.CRR 0 rfl).1; omega) (fun _ => rfl) (fun _ => rfl) ?_; clear HM; intro w7 HM; replace HM := nzM HM; replace HM := HM.nmRR 0 rfl Ny387.out; have p8 : 0 ≤ (x5_1 : Int) := of_decide_eq_true AS; have q8 : (x5_1 : Int) < ((x0_1.length : Int) : Int) := of_decide_eq_true AS; clear p8 q8; have p8 : 0 ≤ (x5_1 : Int) := of_decide_eq_true AS; have q8 : (x5_1 : Int) < (y387.length : Int) := (by have h_ : (x5_1 : Int) < ((x0_1.length : Int) : Int) := of_decide_eq_true AS; have e_ := (HM.CRR 0 rfl).1; omega); have ql8 : ((x5_1 : Int) < ((x0_1.length : Int) : Int)) = True := eq_true (of_decide_eq_true AS); obtain ⟨ad8, A8_6, c8_6, e8, hx8_0, hx8_1, hx8_2, hx8_3, hx8_4, hx8_5, hx8_6, l8_6, g8_6⟩ := at_T55 (HM.CRR 0 rfl).2.2 x5_1 p8 q8; obtain rfl := Option.some.inj e8; (first | simp only [add_plain] at hx8_0 | simp only [add_at] at hx8_0 | simp only [Addr.add, Nat.zero_add] at hx8_0 | skip); (first | simp only [add_plain] at hx8_1 | simp only [add_at] at hx8_1 | simp only [Addr.add, Nat.zero_add] at hx8_1 | skip); (first | simp only [add_plain] at hx8_2 | simp only [add_at] at hx8_2 | simp only [Addr.add, Nat.zero_add] at hx8_2 | skip); (first | simp only [add_plain] at hx8_3 | simp only [add_at] at hx8_3 | simp only [Addr.add, Nat.zero_add] at hx8_3 | skip); (first | simp only [add_plain] at hx8_4 | simp only [add_at] at hx8_4 | simp only [Addr.add, Nat.zero_add] at hx8_4 | skip); (first | simp only [add_plain] at hx8_5 | simp only [add_at] at hx8_5 | simp only [Addr.add, Nat.zero_add] at hx8_5 | skip); (first | simp only [add_plain] at hx8_6 | simp only [add_at] at hx8_6 | simp only [Addr.add, Nat.zero_add] at hx8_6 | skip); replace p8 := eq_true p8; replace q8 := eq_true q8) | ((with_reducible refine gS 23 rfl ?_); refine pPX [] 0 23 (x5_1 : Int) 1 [.int .i64 (wrap64 (x1_1 + 1))] x55 55 y387 (⟨(rd_T55 y387 x5_1).f0, wrap64 (x1_1 + 1), (rd_T55 y387 x5_1).f2, (⟨(rd_T55 y387 x5_1).f3.f0, (rd_T55 y387 x5_1).f3.f1, (rd_T55 y387 x5_1).f3.f2⟩ : S43), (rd_T55 y387 x5_1).f4⟩ : S55) z55 HM rfl (by kernel_rfl) rfl (of_decide_eq_true AS) (by have h_ : (x5_1 : Int) < ((x0_1.length : Int) : Int) := of_decide_eq_true AS; have e_ := (HM.CRR 0 rfl).1; omega) (fun _ => rfl) (fun _ => rfl) ?_; clear HM; intro w9 HM; replace HM := nzM HM; replace HM := HM.nmRR 0 rfl Ny388.out; have p10 : 0 ≤ (x5_1 : Int) := of_decide_eq_true AS; have q10 : (x5_1 : Int) < ((x0_1.length : Int) : Int) := of_decide_eq_true AS; clear p10 q10; have p10 : 0 ≤ (x5_1 : Int) := of_decide_eq_true AS; have q10 : (x5_1 : Int) < (y388.length : Int) := (by have h_ : (x5_1 : Int) < ((x0_1.length : Int) : Int) := of_decide_eq_true AS; have e_ := (HM.CRR 0 rfl).1; omega); have ql10 : ((x5_1 : Int) < ((x0_1.length : Int) : Int)) = True := eq_true (of_decide_eq_true AS); obtain ⟨ad10, A10_6, c10_6, e10, hx10_0, hx10_1, hx10_2, hx10_3, hx10_4, hx10_5, hx10_6, l10_6, g10_6⟩ := at_T55 (HM.CRR 0 rfl).2.2 x5_1 p10 q10; obtain rfl := Option.some.inj e10; (first | simp only [add_plain] at hx10_0 | simp only [add_at] at hx10_0 | simp only [Addr.add, Nat.zero_add] at hx10_0 | skip); (first | simp only [add_plain] at hx10_1 | simp only [add_at] at hx10_1 | simp only [Addr.add, Nat.zero_add] at hx10_1 | skip); (first | simp only [add_plain] at hx10_2 | simp only [add_at] at hx10_2 | simp only [Addr.add, Nat.zero_add] at hx10_2 | skip); (first | simp only [add_plain] at hx10_3 | simp only [add_at] at hx10_3 | simp only [Addr.add, Nat.zero_add] at hx10_3 | skip); (first | simp only [add_plain] at hx10_4 | simp only [add_at] at hx10_4 | simp only [Addr.add, Nat.zero_add] at hx10_4 | skip); (first | simp only [add_plain] at hx10_5 | simp only [add_at] at hx10_5 | simp only [Addr.add, Nat.zero_add] at hx10_5 | skip); (first | simp only [add_plain] at hx10_6 | simp only [add_at] at hx10_6 | simp only [Addr.add, Nat.zero_add] at hx10_6 | skip); replace p10 := eq_true p10; replace q10 := eq_true q10) | ((with_reducible refine gS 30 rfl ?_); refine pPX [] 0 30 (x5_1 : Int) 2 [.int .i64 (wrap64 ((wrap64 (x1_1 + 1)) + 1))] x55 55 y388 (⟨(rd_T55 y388 x5_1).f0, (rd_T55 y388 x5_1).f1, wrap64 ((wrap64 (x1_1 + 1)) + 1), (⟨(rd_T55 y388 x5_1).f3.f0, (rd_T55 y388 x5_1).f3.f1, (rd_T55 y388 x5_1).f3.f2⟩ : S43), (rd_T55 y388 x5_1).f4⟩ : S55) z55 HM rfl (by kernel_rfl) rfl (of_decide_eq_true AS) (by have h_ : (x5_1 : Int) < ((x0_1.length : Int) : Int) := of_decide_eq_true AS; have e_ := (HM.CRR 0 rfl).1; omega) (fun _ => rfl) (fun _ => rfl) ?_; clear HM; intro w11 HM; replace HM := nzM HM; replace HM := HM.nmRR 0 rfl Ny389.out; have p12 : 0 ≤ (x5_1 : Int) := of_decide_eq_true AS; have q12 : (x5_1 : Int) < ((x0_1.length : Int) : Int) := of_decide_eq_true AS; clear p12 q12; have p12 : 0 ≤ (x5_1 : Int) := of_decide_eq_true AS; have q12 : (x5_1 : Int) < (y389.length : Int) := (by have h_ : (x5_1 : Int) < ((x0_1.length : Int) : Int) := of_decide_eq_true AS; have e_ := (HM.CRR 0 rfl).1; omega); have ql12 : ((x5_1 : Int) < ((x0_1.length : Int) : Int)) = True := eq_true (of_decide_eq_true AS); obtain ⟨ad12, A12_6, c12_6, e12, hx12_0, hx12_1, hx12_2, hx12_3, hx12_4, hx12_5, hx12_6, l12_6, g12_6⟩ := at_T55 (HM.CRR 0 rfl).2.2 x5_1 p12 q12; obtain rfl := Option.some.inj e12; (first | simp only [add_plain] at hx12_0 | simp only [add_at] at hx12_0 | simp only [Addr.add, Nat.zero_add] at hx12_0 | skip); (first | simp only [add_plain] at hx12_1 | simp only [add_at] at hx12_1 | simp only [Addr.add, Nat.zero_add] at hx12_1 | skip); (first | simp only [add_plain] at hx12_2 | simp only [add_at] at hx12_2 | simp only [Addr.add, Nat.zero_add] at hx12_2 | skip); (first | simp only [add_plain] at hx12_3 | simp only [add_at] at hx12_3 | simp only [Addr.add, Nat.zero_add] at hx12_3 | skip); (first | simp only [add_plain] at hx12_4 | simp only [add_at] at hx12_4 | simp only [Addr.add, Nat.zero_add] at hx12_4 | skip); (first | simp only [add_plain] at hx12_5 | simp only [add_at] at hx12_5 | simp only [Addr.add, Nat.zero_add] at hx12_5 | skip); (first | simp only [add_plain] at hx12_6 | simp only [add_at] at hx12_6 | simp only [Addr.add, Nat.zero_add] at hx12_6 | skip); replace p12 := eq_true p12; replace q12 := eq_true q12) | ((with_reducible refine gS 38 rfl ?_); refine pPX [] 0 38 (x5_1 : Int) 3 [.int .i64 (wrap64 ((wrap64 ((wrap64 (x1_1 + 1)) + 1)) + 1))] x55 55 y389 (⟨(rd_T55 y389 x5_1).f0, (rd_T55 y389 x5_1).f1, (rd_T55 y389 x5_1).f2, (⟨wrap64 ((wrap64 ((wrap64 (x1_1 + 1)) + 1)) + 1), (rd_T55 y389 x5_1).f3.f1, (rd_T55 y389 x5_1).f3.f2⟩ : S43), (rd_T55 y389 x5_1).f4⟩ : S55) z55 HM rfl (by kernel_rfl) rfl (of_decide_eq_true AS) (by have h_ : (x5_1 : Int) < ((x0_1.length : Int) : Int) := of_decide_eq_true AS; have e_ := (HM.CRR 0 rfl).1; omega) (fun _ => rfl) (fun _ => rfl) ?_; clear HM; intro w13 HM; replace HM := nzM HM; replace HM := HM.nmRR 0 rfl Ny390.out) | ((with_reducible refine gC 54 rfl ?_); refine pC (some 44) rfl #[.int .i64 (wrap64 ((wrap64 ((wrap64 ((wrap64 (x1_1 + 1)) + 1)) + 1)) + 1))] rfl Try.func54 (laws_markText.calls k1 (wrap64 ((wrap64 ((wrap64 ((wrap64 (x1_1 + 1)) + 1)) + 1)) + 1)) t391 _ A14.out) ?_; rintro e w15 ⟨rfl, hR⟩; refine ⟨_, rfl, ?_⟩; replace HM := HM.call hR; clear hR; have p16 : 0 ≤ (x5_1 : Int) := of_decide_eq_true AS; have q16 : (x5_1 : Int) < ((x0_1.length : Int) : Int) := of_decide_eq_true AS; clear p16 q16; have p16 : 0 ≤ (x5_1 : Int) := of_decide_eq_true AS; have q16 : (x5_1 : Int) < (y390.length : Int) := (by have h_ : (x5_1 : Int) < ((x0_1.length : Int) : Int) := of_decide_eq_true AS; have e_ := (HM.CRR 0 rfl).1; omega); have ql16 : ((x5_1 : Int) < ((x0_1.length : Int) : Int)) = True := eq_true (of_decide_eq_true AS); obtain ⟨ad16, A16_6, c16_6, e16, hx16_0, hx16_1, hx16_2, hx16_3, hx16_4, hx16_5, hx16_6, l16_6, g16_6⟩ := at_T55 (HM.CRR 0 rfl).2.2 x5_1 p16 q16; obtain rfl := Option.some.inj e16; (first | simp only [add_plain] at hx16_0 | simp only [add_at] at hx16_0 | simp only [Addr.add, Nat.zero_add] at hx16_0 | skip); (first | simp only [add_plain] at hx16_1 | simp only [add_at] at hx16_1 | simp only [Addr.add, Nat.zero_add] at hx16_1 | skip); (first | simp only [add_plain] at hx16_2 | simp only [add_at] at hx16_2 | simp only [Addr.add, Nat.zero_add] at hx16_2 | skip); (first | simp only [add_plain] at hx16_3 | simp only [add_at] at hx16_3 | simp only [Addr.add, Nat.zero_add] at hx16_3 | skip); (first | simp only [add_plain] at hx16_4 | simp only [add_at] at hx16_4 | simp only [Addr.add, Nat.zero_add] at hx16_4 | skip); (first | simp only [add_plain] at hx16_5 | simp only [add_at] at hx16_5 | simp only [Addr.add, Nat.zero_add] at hx16_5 | skip); (first | simp only [add_plain] at hx16_6 | simp only [add_at] at hx16_6 | simp only [Addr.add, Nat.zero_add] at hx16_6 | skip); replace p16 := eq_true p16; replace q16 := eq_true q16) | ((with_reducible refine gS 47 rfl ?_); refine pPX [] 0 47 (x5_1 : Int) 4 [.string t391] x55 55 y390 (⟨(rd_T55 y390 x5_1).f0, (rd_T55 y390 x5_1).f1, (rd_T55 y390 x5_1).f2, (⟨(rd_T55 y390 x5_1).f3.f0, t391, (rd_T55 y390 x5_1).f3.f2⟩ : S43), (rd_T55 y390 x5_1).f4⟩ : S55) z55 HM rfl (by kernel_rfl) rfl (of_decide_eq_true AS) (by have h_ : (x5_1 : Int) < ((x0_1.length : Int) : Int) := of_decide_eq_true AS; have e_ := (HM.CRR 0 rfl).1; omega) (fun _ => rfl) (fun _ => rfl) ?_; clear HM; intro w17 HM; replace HM := nzM HM; replace HM := HM.nmRR 0 rfl Ny392.out) | ((with_reducible refine gC 54 rfl ?_); refine pC (some 53) rfl #[.int .i64 (wrap64 ((wrap64 ((wrap64 ((wrap64 ((wrap64 (x1_1 + 1)) + 1)) + 1)) + 1)) + 1))] rfl Try.func54 (laws_markText.calls k1 (wrap64 ((wrap64 ((wrap64 ((wrap64 ((wrap64 (x1_1 + 1)) + 1)) + 1)) + 1)) + 1)) t393 _ A18.out) ?_; rintro e w19 ⟨rfl, hR⟩; refine ⟨_, rfl, ?_⟩; replace HM := HM.call hR; clear hR; have p20 : 0 ≤ (x5_1 : Int) := of_decide_eq_true AS; have q20 : (x5_1 : Int) < ((x0_1.length : Int) : Int) := of_decide_eq_true AS; clear p20 q20; have p20 : 0 ≤ (x5_1 : Int) := of_decide_eq_true AS; have q20 : (x5_1 : Int) < (y392.length : Int) := (by have h_ : (x5_1 : Int) < ((x0_1.length : Int) : Int) := of_decide_eq_true AS; have e_ := (HM.CRR 0 rfl).1; omega); have ql20 : ((x5_1 : Int) < ((x0_1.length : Int) : Int)) = True := eq_true (of_decide_eq_true AS); obtain ⟨ad20, A20_6, c20_6, e20, hx20_0, hx20_1, hx20_2, hx20_3, hx20_4, hx20_5, hx20_6, l20_6, g20_6⟩ := at_T55 (HM.CRR 0 rfl).2.2 x5_1 p20 q20; obtain rfl := Option.some.inj e20; (first | simp only [add_plain] at hx20_0 | simp only [add_at] at hx20_0 | simp only [Addr.add, Nat.zero_add] at hx20_0 | skip); (first | simp only [add_plain] at hx20_1 | simp only [add_at] at hx20_1 | simp only [Addr.add, Nat.zero_add] at hx20_1 | skip); (first | simp only [add_plain] at hx20_2 | simp only [add_at] at hx20_2 | simp only [Addr.add, Nat.zero_add] at hx20_2 | skip); (first | simp only [add_plain] at hx20_3 | simp only [add_at] at hx20_3 | simp only [Addr.add, Nat.zero_add] at hx20_3 | skip); (first | simp only [add_plain] at hx20_4 | simp only [add_at] at hx20_4 | simp only [Addr.add, Nat.zero_add] at hx20_4 | skip); (first | simp only [add_plain] at hx20_5 | simp only [add_at] at hx20_5 | simp only [Addr.add, Nat.zero_add] at hx20_5 | skip); (first | simp only [add_plain] at hx20_6 | simp only [add_at] at hx20_6 | simp only [Addr.add, Nat.zero_add] at hx20_6 | skip); replace p20 := eq_true p20; replace q20 := eq_true q20) | ((with_reducible refine gS 56 rfl ?_); refine pPX [] 0 56 (x5_1 : Int) 5 [.string t393] x55 55 y392 (⟨(rd_T55 y392 x5_1).f0, (rd_T55 y392 x5_1).f1, (rd_T55 y392 x5_1).f2, (⟨(rd_T55 y392 x5_1).f3.f0, (rd_T55 y392 x5_1).f3.f1, t393⟩ : S43), (rd_T55 y392 x5_1).f4⟩ : S55) z55 HM rfl (by kernel_rfl) rfl (of_decide_eq_true AS) (by have h_ : (x5_1 : Int) < ((x0_1.length : Int) : Int) := of_decide_eq_true AS; have e_ := (HM.CRR 0 rfl).1; omega) (fun _ => rfl) (fun _ => rfl) ?_; clear HM; intro w21 HM; replace HM := nzM HM; replace HM := HM.nmRR 0 rfl Ny394.out; have p395 : 0 ≤ (x5_1 : Int) := of_decide_eq_true AS; have q395 : (x5_1 : Int) < (y394.length : Int) := (by have h_ : (x5_1 : Int) < ((x0_1.length : Int) : Int) := of_decide_eq_true AS; have e_ := (HM.CRR 0 rfl).1; omega); have ql395 : ((x5_1 : Int) < ((x0_1.length : Int) : Int)) = True := eq_true (of_decide_eq_true AS); obtain ⟨ad395, A395_6, c395_6, e395, hx395_0, hx395_1, hx395_2, hx395_3, hx395_4, hx395_5, hx395_6, l395_6, g395_6⟩ := at_T55 (HM.CRR 0 rfl).2.2 x5_1 p395 q395; obtain rfl := Option.some.inj e395; (first | simp only [add_plain] at hx395_0 | simp only [add_at] at hx395_0 | simp only [Addr.add, Nat.zero_add] at hx395_0 | skip); (first | simp only [add_plain] at hx395_1 | simp only [add_at] at hx395_1 | simp only [Addr.add, Nat.zero_add] at hx395_1 | skip); (first | simp only [add_plain] at hx395_2 | simp only [add_at] at hx395_2 | simp only [Addr.add, Nat.zero_add] at hx395_2 | skip); (first | simp only [add_plain] at hx395_3 | simp only [add_at] at hx395_3 | simp only [Addr.add, Nat.zero_add] at hx395_3 | skip); (first | simp only [add_plain] at hx395_4 | simp only [add_at] at hx395_4 | simp only [Addr.add, Nat.zero_add] at hx395_4 | skip); (first | simp only [add_plain] at hx395_5 | simp only [add_at] at hx395_5 | simp only [Addr.add, Nat.zero_add] at hx395_5 | skip); (first | simp only [add_plain] at hx395_6 | simp only [add_at] at hx395_6 | simp only [Addr.add, Nat.zero_add] at hx395_6 | skip); replace p395 := eq_true p395; replace q395 := eq_true q395; obtain ⟨vs_, hcs_, HM⟩ := HM.rrTake [] [0] (x5_1 : Int) z55 (by kernel_rfl) rfl (of_eq_true p395) (of_eq_true q395); replace HM : Mem w0 F w21 [hol x55 55 (.slice (some ⟨go6, 0, none⟩) x0_1.length ko3) y394 (x5_1 : Int).toNat vs_, row Kd.string 9 (vs_.getD 0 (.bool false)) (rd_T55 y394 x5_1).f4] := HM; have ev0 := Option.some.inj ((hcs_ 6 _ rfl).symm.trans hx395_6); replace ev0 : vs_.getD 0 (.bool false) = .slice A395_6 ((rd_T55 y394 x5_1).f4).length c395_6 := ev0; rw [ev0] at HM; clear hcs_) | ((with_reducible refine gC 55 rfl ?_); refine pC (some 65) rfl #[.slice A395_6 ((rd_T55 y394 x5_1).f4).length c395_6, .int .i64 (wrap64 ((wrap64 ((wrap64 ((wrap64 ((wrap64 ((wrap64 (x1_1 + 1)) + 1)) + 1)) + 1)) + 1)) + 1))] rfl Try.func55 (laws_markStringS.calls k1 (.slice A395_6 ((rd_T55 y394 x5_1).f4).length c395_6) ((rd_T55 y394 x5_1).f4) (wrap64 ((wrap64 ((wrap64 ((wrap64 ((wrap64 ((wrap64 (x1_1 + 1)) + 1)) + 1)) + 1)) + 1)) + 1)) t396 t397 _ _ _ (HM.focus [0] [1]) A22.out) ?_; rintro e w23 ⟨rfl, hR⟩; refine ⟨_, rfl, ?_⟩; replace HM := nzM hR.unfocus; clear hR; replace HM := nzM (HM.rrBack [] [0, 1] (x5_1 : Int).toNat (⟨(rd_T55 y394 x5_1).f0, (rd_T55 y394 x5_1).f1, (rd_T55 y394 x5_1).f2, (⟨(rd_T55 y394 x5_1).f3.f0, (rd_T55 y394 x5_1).f3.f1, (rd_T55 y394 x5_1).f3.f2⟩ : S43), t397⟩ : S55) z55 vs_ (by kernel_rfl) (by rw [show x55.sps (⟨(rd_T55 y394 x5_1).f0, (rd_T55 y394 x5_1).f1, (rd_T55 y394 x5_1).f2, (⟨(rd_T55 y394 x5_1).f3.f0, (rd_T55 y394 x5_1).f3.f1, (rd_T55 y394 x5_1).f3.f2⟩ : S43), t397⟩ : S55) vs_ = [row Kd.string 9 (.slice A395_6 ((rd_T55 y394 x5_1).f4).length c395_6) t397] from by (show [row Kd.string 9 (vs_.getD 0 (.bool false)) t397] = _; rw [ev0])]; rfl) (by have h_ := of_eq_true q395; have hp_ := of_eq_true p395; omega) rfl); clear ev0 vs_))
    go_roundg k1
    case measure => have := HK1.out; omega
    case rel => exact ⟨((y394.set (x5_1 : Int).toNat (⟨(rd_T55 y394 x5_1).f0, (rd_T55 y394 x5_1).f1, (rd_T55 y394 x5_1).f2, (⟨(rd_T55 y394 x5_1).f3.f0, (rd_T55 y394 x5_1).f3.f1, (rd_T55 y394 x5_1).f3.f2⟩ : S43), t397⟩ : S55))), (t396), (wrap64 (x5_1 + 1)), RS, RS, H', ⟨by have := HK1.out; omega⟩, (MD HM).pick [0]⟩
   ·have c4b0 : decide (x5_1 < (x0_1.length : Int)) = false := decide_eq_false c4
    clear c4
    first|rw [c4b0]|(simp only [i64_w, i32_w]; rw [c4b0])|skip
    simp only [Option.some.injEq, Prod.mk.injEq] at H
    obtain ⟨rfl, rfl⟩ := H
    go_wp2
    go_ret
    exact ⟨ER, (MD HM).pick [0]⟩
def laws_heldStringS.l0 : Nat → List ByteArray → Int → Int → Option (Int)
 | 0, _, _, _ => none
 | k + 1, x0, x1, x5 => if x5 < (x0.length : Int) then (if 0 ≤ x5 then ((laws_markText.f k x1).bind fun t401 => (if (rdOf ByteArray.empty x0 x5).toList = t401.toList then (laws_heldStringS.l0 k x0 (wrap64 (x1 + 1)) (wrap64 (x5 + 1))) else (none))) else (none)) else (some x1)
def laws_heldStringS.f (k : Nat) (l0 : List ByteArray) (a1 : Int) : Option (Int) := laws_heldStringS.l0 k l0 a1 0
def laws_heldStringS.T4 : Bool × List (List Nat × List Nat) := (true, [([], []), ([], []), ([0, 1], [0, 1]), ([2], [2]), ([], []), ([4], [4]), ([3, 5], [3, 5])])
def laws_heldStringS.B4 : List Nat := [0, 0, 3, 7, 0, 16, 63]
theorem laws_heldStringS.tab4 : rtab .any (opsOf Try.f56 4) = laws_heldStringS.T4 := by kernel_rfl
theorem laws_heldStringS.bits4 : waitsOk laws_heldStringS.T4.2 laws_heldStringS.B4 = true := by kernel_rfl
theorem laws_heldStringS.calls (k : Nat) (A0 : Option Addr) (c0 : Nat) (l0 : List ByteArray) (a1 : Int) (r : Int) (w : World) (hr0 : Kd.C Kd.string w A0 l0.length l0) (hc0 : l0.length ≤ c0) (h : laws_heldStringS.f k l0 a1 = some r) :
  Calls Try.prog 56 #[.slice A0 l0.length c0, .int .i64 a1] w fun e w' => e = .returned (.int .i64 r) ∧ Mem w [] w' [] := by
 have HR0 := Aside0.mk hr0
 have HC0 := Aside0.mk hc0
 clear hr0 hc0
 have HM := Mem.nil w
 have H := h
 clear h
 unfold laws_heldStringS.f at H
 go_enter Try.func56, Try.ntmps56
 have H' := Aside0.mk H
 clear H
 go_wp2
 go_loopg [1, 5] k (fun kq v1 v5 w' => ∃ (x1_1 : Int) (x5_1 : Int), v1 = .int .i64 x1_1 ∧ v5 = .int .i64 x5_1 ∧ Aside0 (laws_heldStringS.l0 kq l0 x1_1 x5_1 = some r) ∧ Aside0 (kq ≤ k) ∧ Mem w [] w' [])
 case atStart => exact ⟨(a1), (0), RS, RS, H', ⟨Nat.le_refl _⟩, (MD HM).pick []⟩
 case round =>
  clear H' HM
  obtain ⟨x1_1, x5_1, rfl, rfl, HA, HK1, HM⟩ := hrel
  cases gk with
  | zero => exact absurd HA.out (by simp [laws_heldStringS.l0])
  | succ k1 =>
   have H := HA.out
   clear HA
   simp only [laws_heldStringS.l0] at H
   go_upto_if 9 with (fail)
   replace H := IT H; rcases H with ⟨c3, H⟩ | ⟨c3, H⟩
   ·have c3b0 := decide_eq_true c3
    clear c3
    first|rw [c3b0]|(simp only [i64_w, i32_w]; rw [c3b0])|skip
    try go_wp2
    replace H := GD H; obtain ⟨c4, H⟩ := H
    have c4b0 := decide_eq_true c4
    clear c4
    replace H := BN H; obtain ⟨t401, A5, H⟩ := H
    have p400 : 0 ≤ (x5_1 : Int) := of_decide_eq_true AS
    have q400 : (x5_1 : Int) < (l0.length : Int) := of_decide_eq_true AS
    obtain ⟨ad400, e400, hx400_0⟩ := Kd.at_string (HM.came HR0.out) x5_1 p400 q400
    cases e400
    replace p400 := eq_true p400
    replace q400 := eq_true q400
    refine RGN 7 [0, 1, 2, 3, 4, 5, 6] (fun a0 b a w' => a = putSel a0 b [(0, 12, .slice (some ad400) l0.length c0), (1, 13, .int .i64 x5_1), (2, 14, .pointer (some (ad400.add (x5_1).toNat))), (3, 15, .string (rdOf ByteArray.empty l0 x5_1)), (4, 16, .int .i64 x1_1), (5, 17, .string t401), (6, 18, .bool ((rdOf ByteArray.empty l0 x5_1).toList != t401.toList))] ∧ Mem w [] w' []) laws_heldStringS.tab4 laws_heldStringS.bits4 ?_ ?_ ?_
    ·exact ⟨PS0' rfl _, (HM.drew).pick []⟩
    ·clear HM
     refine SY ?_ ?_
     ·intro b a w ha HM hb hon hoff K hK
      have e0 := PG ha 0
      exact VL (.slice (some ad400) l0.length c0) (hK.out _ _ ⟨PUT ha 0 hb, HM⟩)
     refine SY ?_ ?_
     ·intro b a w ha HM hb hon hoff K hK
      have e5 := PG ha 5
      exact VL (.int .i64 x5_1) (hK.out _ _ ⟨PUT ha 1 hb, HM⟩)
     refine SY ?_ ?_
     ·intro b a w ha HM hb hon hoff K hK
      have p400 : 0 ≤ (x5_1 : Int) := of_decide_eq_true AS
      have q400 : (x5_1 : Int) < (l0.length : Int) := of_decide_eq_true AS
      obtain ⟨ad400, e400, hx400_0⟩ := Kd.at_string (HM.came HR0.out) x5_1 p400 q400
      obtain rfl := Option.some.inj e400
      replace p400 := eq_true p400
      replace q400 := eq_true q400
      have e12 := PE ha 0 hon
      have e13 := PE ha 1 hon
      exact VL (.pointer (some (ad400.add (x5_1).toNat))) (hK.out _ _ ⟨PUT ha 2 hb, HM⟩)
     refine SY ?_ ?_
     ·intro b a w ha HM hb hon hoff K hK
      have p400 : 0 ≤ (x5_1 : Int) := of_decide_eq_true AS
      have q400 : (x5_1 : Int) < (l0.length : Int) := of_decide_eq_true AS
      obtain ⟨ad400, e400, hx400_0⟩ := Kd.at_string (HM.came HR0.out) x5_1 p400 q400
      obtain rfl := Option.some.inj e400
      replace p400 := eq_true p400
      replace q400 := eq_true q400
      have e14 := PE ha 2 hon
      exact VL (.string (rdOf ByteArray.empty l0 x5_1)) (hK.out _ _ ⟨PUT ha 3 hb, HM⟩)
     refine SY ?_ ?_
     ·intro b a w ha HM hb hon hoff K hK
      have e1 := PG ha 1
      exact VL (.int .i64 x1_1) (hK.out _ _ ⟨PUT ha 4 hb, HM⟩)
     refine SY ?_ ?_
     ·intro b a w ha HM hb hon hoff K hK
      have e16 := PE ha 4 hon
      refine ST (eC (some 17) rfl #[.int .i64 x1_1] rfl Try.func54 (laws_markText.calls k1 x1_1 t401 _ A5.out) ?_ (hargs := by (simp only [List.map_toArray, List.map_cons, List.map_nil, evc, eval_of e16]) <;> rfl))
      rintro e w7 ⟨rfl, hR⟩
      refine ⟨_, rfl, ?_⟩
      replace HM := HM.call hR
      clear hR
      exact hK.out _ _ ⟨PUT ha 5 hb, (HM).pick []⟩
     refine SY ?_ ?_
     ·intro b a w ha HM hb hon hoff K hK
      have e15 := PE ha 3 hon
      have e17 := PE ha 5 hon
      exact VL (.bool ((rdOf ByteArray.empty l0 x5_1).toList != t401.toList)) (hK.out _ _ ⟨PUT ha 6 hb, HM⟩)
     exact steps_nil
    rintro _ w8 ⟨rfl, HM⟩
    simp only [putSel, if_true, Act.put, List.setIfInBounds_toArray, List.set_cons_zero, List.set_cons_succ, gt_iff_lt, ge_iff_le]
    replace H := GD H; obtain ⟨c9, H⟩ := H
    obtain ⟨c9b0, c9b1⟩ := BE c9
    clear c9
    (first | rw [c9b0] | rw [c9b1] | skip)
    have H' := Aside0.mk H
    clear H
    go_wp2
    go_roundg k1
    case measure => have := HK1.out; omega
    case rel => exact ⟨(wrap64 (x1_1 + 1)), (wrap64 (x5_1 + 1)), RS, RS, H', ⟨by have := HK1.out; omega⟩, (MD HM).pick []⟩
   ·have c3b0 := decide_eq_false c3
    clear c3
    first|rw [c3b0]|(simp only [i64_w, i32_w]; rw [c3b0])|skip
    obtain rfl := Option.some.inj H
    go_wp2
    go_ret
    exact ⟨ER, (MD HM).pick []⟩
def laws_heldCmdS.l0 : Nat → List (S55) → Int → Int → Option (Int)
 | 0, _, _, _ => none
 | k + 1, x0, x1, x5 => if x5 < (x0.length : Int) then (if 0 ≤ x5 then (if ((rd_T55 x0 x5).f0) = x1 then (if ((rd_T55 x0 x5).f1) = (wrap64 (x1 + 1)) then (if ((rd_T55 x0 x5).f2) = (wrap64 ((wrap64 (x1 + 1)) + 1)) then (if ((rd_T55 x0 x5).f3.f0) = (wrap64 ((wrap64 ((wrap64 (x1 + 1)) + 1)) + 1)) then ((laws_markText.f k (wrap64 ((wrap64 ((wrap64 ((wrap64 (x1 + 1)) + 1)) + 1)) + 1))).bind fun t407 => (if ((rd_T55 x0 x5).f3.f1).toList = t407.toList then ((laws_markText.f k (wrap64 ((wrap64 ((wrap64 ((wrap64 ((wrap64 (x1 + 1)) + 1)) + 1)) + 1)) + 1))).bind fun t409 => (if ((rd_T55 x0 x5).f3.f2).toList = t409.toList then ((laws_heldStringS.f k ((rd_T55 x0 x5).f4) (wrap64 ((wrap64 ((wrap64 ((wrap64 ((wrap64 ((wrap64 (x1 + 1)) + 1)) + 1)) + 1)) + 1)) + 1))).bind fun t411 => (if t411 < 0 then (none) else (laws_heldCmdS.l0 k x0 t411 (wrap64 (x5 + 1))))) else (none))) else (none))) else (none)) else (none)) else (none)) else (none)) else (none)) else (some x1)
def laws_heldCmdS.f (k : Nat) (l0 : List (S55)) (a1 : Int) : Option (Int) := laws_heldCmdS.l0 k l0 a1 0
def laws_heldCmdS.T16 : Bool × List (List Nat × List Nat) := (true, [([], []), ([], []), ([0, 1], [0, 1]), ([2], [2]), ([3], [3]), ([4], [4]), ([], []), ([6], [6]), ([5, 7], [5, 7])])
def laws_heldCmdS.B16 : List Nat := [0, 0, 3, 7, 15, 31, 0, 64, 255]
theorem laws_heldCmdS.tab16 : rtab .any (opsOf Try.f12 16) = laws_heldCmdS.T16 := by kernel_rfl
theorem laws_heldCmdS.bits16 : waitsOk laws_heldCmdS.T16.2 laws_heldCmdS.B16 = true := by kernel_rfl
def laws_heldCmdS.T19 : Bool × List (List Nat × List Nat) := (true, [([], []), ([], []), ([0, 1], [0, 1]), ([2], [2]), ([3], [3]), ([4], [4]), ([], []), ([6], [6]), ([5, 7], [5, 7])])
def laws_heldCmdS.B19 : List Nat := [0, 0, 3, 7, 15, 31, 0, 64, 255]
theorem laws_heldCmdS.tab19 : rtab .any (opsOf Try.f12 19) = laws_heldCmdS.T19 := by kernel_rfl
theorem laws_heldCmdS.bits19 : waitsOk laws_heldCmdS.T19.2 laws_heldCmdS.B19 = true := by kernel_rfl
theorem laws_heldCmdS.calls (k : Nat) (A0 : Option Addr) (c0 : Nat) (l0 : List (S55)) (a1 : Int) (r : Int) (w : World) (hr0 : Kd.C k55 w A0 l0.length l0) (hc0 : l0.length ≤ c0) (h : laws_heldCmdS.f k l0 a1 = some r) :
  Calls Try.prog 12 #[.slice A0 l0.length c0, .int .i64 a1] w fun e w' => e = .returned (.int .i64 r) ∧ Mem w [] w' [] := by
 have HR0 := Aside0.mk hr0
 have HC0 := Aside0.mk hc0
 clear hr0 hc0
 have HM := Mem.nil w
 have H := h
 clear h
 unfold laws_heldCmdS.f at H
 go_enter Try.func12, Try.ntmps12
 have H' := Aside0.mk H
 clear H
 go_wp2
 go_loopg [1, 5] k (fun kq v1 v5 w' => ∃ (x1_1 : Int) (x5_1 : Int), v1 = .int .i64 x1_1 ∧ v5 = .int .i64 x5_1 ∧ Aside0 (laws_heldCmdS.l0 kq l0 x1_1 x5_1 = some r) ∧ Aside0 (kq ≤ k) ∧ Mem w [] w' [])
 case atStart => exact ⟨(a1), (0), RS, RS, H', ⟨Nat.le_refl _⟩, (MD HM).pick []⟩
 case round =>
  clear H' HM
  obtain ⟨x1_1, x5_1, rfl, rfl, HA, HK1, HM⟩ := hrel
  cases gk with
  | zero => exact absurd HA.out (by simp [laws_heldCmdS.l0])
  | succ k1 =>
   have H := HA.out
   clear HA
   simp only [laws_heldCmdS.l0] at H
   go_upto_if 9 with (fail)
   replace H := IT H; rcases H with ⟨c3, H⟩ | ⟨c3, H⟩
   ·have c3b0 := decide_eq_true c3
    clear c3
    first|rw [c3b0]|(simp only [i64_w, i32_w]; rw [c3b0])|skip
    replace H := GD H; obtain ⟨c4, H⟩ := H
    have c4b0 := decide_eq_true c4
    clear c4
    replace H := GD H; obtain ⟨c5, H⟩ := H
    obtain ⟨c5b0, c5b1⟩ := BE c5
    clear c5
    replace H := GD H; obtain ⟨c6, H⟩ := H
    obtain ⟨c6b0, c6b1⟩ := BE c6
    clear c6
    replace H := GD H; obtain ⟨c7, H⟩ := H
    obtain ⟨c7b0, c7b1⟩ := BE c7
    clear c7
    replace H := GD H; obtain ⟨c8, H⟩ := H
    obtain ⟨c8b0, c8b1⟩ := BE c8
    clear c8
    have p402 : 0 ≤ (x5_1 : Int) := of_decide_eq_true AS
    have q402 : (x5_1 : Int) < (l0.length : Int) := of_decide_eq_true AS
    obtain ⟨ad402, A402_6, c402_6, e402, hw402_0, hw402_1, hw402_2, hw402_3, hw402_4, hw402_5, hw402_6, l402_6, g402_6⟩ := at_T55 HR0.out x5_1 p402 q402
    cases e402
    have hx402_0 := HM.cell hw402_0
    have hx402_1 := HM.cell hw402_1
    have hx402_2 := HM.cell hw402_2
    have hx402_3 := HM.cell hw402_3
    have hx402_4 := HM.cell hw402_4
    have hx402_5 := HM.cell hw402_5
    have hx402_6 := HM.cell hw402_6
    replace p402 := eq_true p402
    replace q402 := eq_true q402
    have p403 : 0 ≤ (x5_1 : Int) := of_decide_eq_true AS
    have q403 : (x5_1 : Int) < (l0.length : Int) := of_decide_eq_true AS
    obtain ⟨ad403, A403_6, c403_6, e403, hw403_0, hw403_1, hw403_2, hw403_3, hw403_4, hw403_5, hw403_6, l403_6, g403_6⟩ := at_T55 HR0.out x5_1 p403 q403
    obtain rfl := Option.some.inj e403
    have hx403_0 := HM.cell hw403_0
    have hx403_1 := HM.cell hw403_1
    have hx403_2 := HM.cell hw403_2
    have hx403_3 := HM.cell hw403_3
    have hx403_4 := HM.cell hw403_4
    have hx403_5 := HM.cell hw403_5
    have hx403_6 := HM.cell hw403_6
    replace p403 := eq_true p403
    replace q403 := eq_true q403
    have p404 : 0 ≤ (x5_1 : Int) := of_decide_eq_true AS
    have q404 : (x5_1 : Int) < (l0.length : Int) := of_decide_eq_true AS
    obtain ⟨ad404, A404_6, c404_6, e404, hw404_0, hw404_1, hw404_2, hw404_3, hw404_4, hw404_5, hw404_6, l404_6, g404_6⟩ := at_T55 HR0.out x5_1 p404 q404
    obtain rfl := Option.some.inj e404
    have hx404_0 := HM.cell hw404_0
    have hx404_1 := HM.cell hw404_1
    have hx404_2 := HM.cell hw404_2
    have hx404_3 := HM.cell hw404_3
    have hx404_4 := HM.cell hw404_4
    have hx404_5 := HM.cell hw404_5
    have hx404_6 := HM.cell hw404_6
    replace p404 := eq_true p404
    replace q404 := eq_true q404
    have p405 : 0 ≤ (x5_1 : Int) := of_decide_eq_true AS
    have q405 : (x5_1 : Int) < (l0.length : Int) := of_decide_eq_true AS
    obtain ⟨ad405, A405_6, c405_6, e405, hw405_0, hw405_1, hw405_2, hw405_3, hw405_4, hw405_5, hw405_6, l405_6, g405_6⟩ := at_T55 HR0.out x5_1 p405 q405
    obtain rfl := Option.some.inj e405
    have hx405_0 := HM.cell hw405_0
    have hx405_1 := HM.cell hw405_1
    have hx405_2 := HM.cell hw405_2
    have hx405_3 := HM.cell hw405_3
    have hx405_4 := HM.cell hw405_4
    have hx405_5 := HM.cell hw405_5
    have hx405_6 := HM.cell hw405_6
    replace p405 := eq_true p405
    replace q405 := eq_true q405
    try go_wp2
    replace H := BN H; obtain ⟨t407, A9, H⟩ := H
    have p406 : 0 ≤ (x5_1 : Int) := of_decide_eq_true AS
    have q406 : (x5_1 : Int) < (l0.length : Int) := of_decide_eq_true AS
    obtain ⟨ad406, A406_6, c406_6, e406, hw406_0, hw406_1, hw406_2, hw406_3, hw406_4, hw406_5, hw406_6, l406_6, g406_6⟩ := at_T55 HR0.out x5_1 p406 q406
    obtain rfl := Option.some.inj e406
    have hx406_0 := HM.cell hw406_0
    have hx406_1 := HM.cell hw406_1
    have hx406_2 := HM.cell hw406_2
    have hx406_3 := HM.cell hw406_3
    have hx406_4 := HM.cell hw406_4
    have hx406_5 := HM.cell hw406_5
    have hx406_6 := HM.cell hw406_6
    replace p406 := eq_true p406
    replace q406 := eq_true q406
    refine RGN 9 [0, 1, 2, 3, 4, 5, 6, 7, 8] (fun a0 b a w' => a = putSel a0 b [(0, 49, .slice (some ad402) l0.length c0), (1, 50, .int .i64 x5_1), (2, 51, .pointer (some (ad402.add ((x5_1).toNat * 7)))), (3, 52, .pointer (some ⟨(ad402.add ((x5_1).toNat * 7)).block, (ad402.add ((x5_1).toNat * 7)).off + 3, none⟩)), (4, 53, .pointer (some ⟨(ad402.add ((x5_1).toNat * 7)).block, (ad402.add ((x5_1).toNat * 7)).off + 4, none⟩)), (5, 54, .string ((rd_T55 l0 x5_1).f3.f1)), (6, 55, .int .i64 (wrap64 ((wrap64 ((wrap64 ((wrap64 (x1_1 + 1)) + 1)) + 1)) + 1))), (7, 56, .string t407), (8, 57, .bool (((rd_T55 l0 x5_1).f3.f1).toList != t407.toList))] ∧ Mem w [] w' []) laws_heldCmdS.tab16 laws_heldCmdS.bits16 ?_ ?_ ?_
    ·exact ⟨PS0' rfl _, (HM.drew).pick []⟩
    ·clear HM
     refine SY ?_ ?_
     ·intro b a w ha HM hb hon hoff K hK
      have e0 := PG ha 0
      exact VL (.slice (some ad402) l0.length c0) (hK.out _ _ ⟨PUT ha 0 hb, HM⟩)
     refine SY ?_ ?_
     ·intro b a w ha HM hb hon hoff K hK
      have e5 := PG ha 5
      exact VL (.int .i64 x5_1) (hK.out _ _ ⟨PUT ha 1 hb, HM⟩)
     refine SY ?_ ?_
     ·intro b a w ha HM hb hon hoff K hK
      have p406 : 0 ≤ (x5_1 : Int) := of_decide_eq_true AS
      have q406 : (x5_1 : Int) < (l0.length : Int) := of_decide_eq_true AS
      have hx406_0 := HM.cell hw406_0
      have hx406_1 := HM.cell hw406_1
      have hx406_2 := HM.cell hw406_2
      have hx406_3 := HM.cell hw406_3
      have hx406_4 := HM.cell hw406_4
      have hx406_5 := HM.cell hw406_5
      have hx406_6 := HM.cell hw406_6
      replace p406 := eq_true p406
      replace q406 := eq_true q406
      have e49 := PE ha 0 hon
      have e50 := PE ha 1 hon
      exact VL (.pointer (some (ad402.add ((x5_1).toNat * 7)))) (hK.out _ _ ⟨PUT ha 2 hb, HM⟩)
     refine SY ?_ ?_
     ·intro b a w ha HM hb hon hoff K hK
      have e51 := PE ha 2 hon
      exact VL (.pointer (some ⟨(ad402.add ((x5_1).toNat * 7)).block, (ad402.add ((x5_1).toNat * 7)).off + 3, none⟩)) (hK.out _ _ ⟨PUT ha 3 hb, HM⟩)
     refine SY ?_ ?_
     ·intro b a w ha HM hb hon hoff K hK
      have e52 := PE ha 3 hon
      exact VL (.pointer (some ⟨(ad402.add ((x5_1).toNat * 7)).block, (ad402.add ((x5_1).toNat * 7)).off + 4, none⟩)) (hK.out _ _ ⟨PUT ha 4 hb, HM⟩)
     refine SY ?_ ?_
     ·intro b a w ha HM hb hon hoff K hK
      have p406 : 0 ≤ (x5_1 : Int) := of_decide_eq_true AS
      have q406 : (x5_1 : Int) < (l0.length : Int) := of_decide_eq_true AS
      have hx406_0 := HM.cell hw406_0
      have hx406_1 := HM.cell hw406_1
      have hx406_2 := HM.cell hw406_2
      have hx406_3 := HM.cell hw406_3
      have hx406_4 := HM.cell hw406_4
      have hx406_5 := HM.cell hw406_5
      have hx406_6 := HM.cell hw406_6
      replace p406 := eq_true p406
      replace q406 := eq_true q406
      have e53 := PE ha 4 hon
      exact VL (.string ((rd_T55 l0 x5_1).f3.f1)) (hK.out _ _ ⟨PUT ha 5 hb, HM⟩)
     refine SY ?_ ?_
     ·intro b a w ha HM hb hon hoff K hK
      have e1 := PG ha 1
      exact VL (.int .i64 (wrap64 ((wrap64 ((wrap64 ((wrap64 (x1_1 + 1)) + 1)) + 1)) + 1))) (hK.out _ _ ⟨PUT ha 6 hb, HM⟩)
     refine SY ?_ ?_
     ·intro b a w ha HM hb hon hoff K hK
      have e55 := PE ha 6 hon
      refine ST (eC (some 56) rfl #[.int .i64 (wrap64 ((wrap64 ((wrap64 ((wrap64 (x1_1 + 1)) + 1)) + 1)) + 1))] rfl Try.func54 (laws_markText.calls k1 (wrap64 ((wrap64 ((wrap64 ((wrap64 (x1_1 + 1)) + 1)) + 1)) + 1)) t407 _ A9.out) ?_ (hargs := by (simp only [List.map_toArray, List.map_cons, List.map_nil, evc, eval_of e55]) <;> rfl))
      rintro e w11 ⟨rfl, hR⟩
      refine ⟨_, rfl, ?_⟩
      replace HM := HM.call hR
      clear hR
      exact hK.out _ _ ⟨PUT ha 7 hb, (HM).pick []⟩
     refine SY ?_ ?_
     ·intro b a w ha HM hb hon hoff K hK
      have e54 := PE ha 5 hon
      have e56 := PE ha 7 hon
      exact VL (.bool (((rd_T55 l0 x5_1).f3.f1).toList != t407.toList)) (hK.out _ _ ⟨PUT ha 8 hb, HM⟩)
     exact steps_nil
    rintro _ w12 ⟨rfl, HM⟩
    simp only [putSel, if_true, Act.put, List.setIfInBounds_toArray, List.set_cons_zero, List.set_cons_succ, gt_iff_lt, ge_iff_le]
    replace H := GD H; obtain ⟨c13, H⟩ := H
    obtain ⟨c13b0, c13b1⟩ := BE c13
    clear c13
    (first | rw [c13b0] | rw [c13b1] | skip)
    try go_wp2
    replace H := BN H; obtain ⟨t409, A14, H⟩ := H
    have p408 : 0 ≤ (x5_1 : Int) := of_decide_eq_true AS
    have q408 : (x5_1 : Int) < (l0.length : Int) := of_decide_eq_true AS
    obtain ⟨ad408, A408_6, c408_6, e408, hw408_0, hw408_1, hw408_2, hw408_3, hw408_4, hw408_5, hw408_6, l408_6, g408_6⟩ := at_T55 HR0.out x5_1 p408 q408
    obtain rfl := Option.some.inj e408
    have hx408_0 := HM.cell hw408_0
    have hx408_1 := HM.cell hw408_1
    have hx408_2 := HM.cell hw408_2
    have hx408_3 := HM.cell hw408_3
    have hx408_4 := HM.cell hw408_4
    have hx408_5 := HM.cell hw408_5
    have hx408_6 := HM.cell hw408_6
    replace p408 := eq_true p408
    replace q408 := eq_true q408
    refine RGN 9 [0, 1, 2, 3, 4, 5, 6, 7, 8] (fun a0 b a w' => a = putSel a0 b [(0, 60, .slice (some ad402) l0.length c0), (1, 61, .int .i64 x5_1), (2, 62, .pointer (some (ad402.add ((x5_1).toNat * 7)))), (3, 63, .pointer (some ⟨(ad402.add ((x5_1).toNat * 7)).block, (ad402.add ((x5_1).toNat * 7)).off + 3, none⟩)), (4, 64, .pointer (some ⟨(ad402.add ((x5_1).toNat * 7)).block, (ad402.add ((x5_1).toNat * 7)).off + 5, none⟩)), (5, 65, .string ((rd_T55 l0 x5_1).f3.f2)), (6, 66, .int .i64 (wrap64 ((wrap64 ((wrap64 ((wrap64 ((wrap64 (x1_1 + 1)) + 1)) + 1)) + 1)) + 1))), (7, 67, .string t409), (8, 68, .bool (((rd_T55 l0 x5_1).f3.f2).toList != t409.toList))] ∧ Mem w [] w' []) laws_heldCmdS.tab19 laws_heldCmdS.bits19 ?_ ?_ ?_
    ·exact ⟨PS0' rfl _, (HM.drew).pick []⟩
    ·clear HM
     refine SY ?_ ?_
     ·intro b a w ha HM hb hon hoff K hK
      have e0 := PG ha 0
      exact VL (.slice (some ad402) l0.length c0) (hK.out _ _ ⟨PUT ha 0 hb, HM⟩)
     refine SY ?_ ?_
     ·intro b a w ha HM hb hon hoff K hK
      have e5 := PG ha 5
      exact VL (.int .i64 x5_1) (hK.out _ _ ⟨PUT ha 1 hb, HM⟩)
     refine SY ?_ ?_
     ·intro b a w ha HM hb hon hoff K hK
      have p408 : 0 ≤ (x5_1 : Int) := of_decide_eq_true AS
      have q408 : (x5_1 : Int) < (l0.length : Int) := of_decide_eq_true AS
      have hx408_0 := HM.cell hw408_0
      have hx408_1 := HM.cell hw408_1
      have hx408_2 := HM.cell hw408_2
      have hx408_3 := HM.cell hw408_3
      have hx408_4 := HM.cell hw408_4
      have hx408_5 := HM.cell hw408_5
      have hx408_6 := HM.cell hw408_6
      replace p408 := eq_true p408
      replace q408 := eq_true q408
      have e60 := PE ha 0 hon
      have e61 := PE ha 1 hon
      exact VL (.pointer (some (ad402.add ((x5_1).toNat * 7)))) (hK.out _ _ ⟨PUT ha 2 hb, HM⟩)
     refine SY ?_ ?_
     ·intro b a w ha HM hb hon hoff K hK
      have e62 := PE ha 2 hon
      exact VL (.pointer (some ⟨(ad402.add ((x5_1).toNat * 7)).block, (ad402.add ((x5_1).toNat * 7)).off + 3, none⟩)) (hK.out _ _ ⟨PUT ha 3 hb, HM⟩)
     refine SY ?_ ?_
     ·intro b a w ha HM hb hon hoff K hK
      have e63 := PE ha 3 hon
      exact VL (.pointer (some ⟨(ad402.add ((x5_1).toNat * 7)).block, (ad402.add ((x5_1).toNat * 7)).off + 5, none⟩)) (hK.out _ _ ⟨PUT ha 4 hb, HM⟩)
     refine SY ?_ ?_
     ·intro b a w ha HM hb hon hoff K hK
      have p408 : 0 ≤ (x5_1 : Int) := of_decide_eq_true AS
      have q408 : (x5_1 : Int) < (l0.length : Int) := of_decide_eq_true AS
      have hx408_0 := HM.cell hw408_0
      have hx408_1 := HM.cell hw408_1
      have hx408_2 := HM.cell hw408_2
      have hx408_3 := HM.cell hw408_3
      have hx408_4 := HM.cell hw408_4
      have hx408_5 := HM.cell hw408_5
      have hx408_6 := HM.cell hw408_6
      replace p408 := eq_true p408
      replace q408 := eq_true q408
      have e64 := PE ha 4 hon
      exact VL (.string ((rd_T55 l0 x5_1).f3.f2)) (hK.out _ _ ⟨PUT ha 5 hb, HM⟩)
     refine SY ?_ ?_
     ·intro b a w ha HM hb hon hoff K hK
      have e1 := PG ha 1
      exact VL (.int .i64 (wrap64 ((wrap64 ((wrap64 ((wrap64 ((wrap64 (x1_1 + 1)) + 1)) + 1)) + 1)) + 1))) (hK.out _ _ ⟨PUT ha 6 hb, HM⟩)
     refine SY ?_ ?_
     ·intro b a w ha HM hb hon hoff K hK
      have e66 := PE ha 6 hon
      refine ST (eC (some 67) rfl #[.int .i64 (wrap64 ((wrap64 ((wrap64 ((wrap64 ((wrap64 (x1_1 + 1)) + 1)) + 1)) + 1)) + 1))] rfl Try.func54 (laws_markText.calls k1 (wrap64 ((wrap64 ((wrap64 ((wrap64 ((wrap64 (x1_1 + 1)) + 1)) + 1)) + 1)) + 1)) t409 _ A14.out) ?_ (hargs := by (simp only [List.map_toArray, List.map_cons, List.map_nil, evc, eval_of e66]) <;> rfl))
      rintro e w16 ⟨rfl, hR⟩
      refine ⟨_, rfl, ?_⟩
      replace HM := HM.call hR
      clear hR
      exact hK.out _ _ ⟨PUT ha 7 hb, (HM).pick []⟩
     refine SY ?_ ?_
     ·intro b a w ha HM hb hon hoff K hK
      have e65 := PE ha 5 hon
      have e67 := PE ha 7 hon
      exact VL (.bool (((rd_T55 l0 x5_1).f3.f2).toList != t409.toList)) (hK.out _ _ ⟨PUT ha 8 hb, HM⟩)
     exact steps_nil
    rintro _ w17 ⟨rfl, HM⟩
    simp only [putSel, if_true, Act.put, List.setIfInBounds_toArray, List.set_cons_zero, List.set_cons_succ, gt_iff_lt, ge_iff_le]
    replace H := GD H; obtain ⟨c18, H⟩ := H
    obtain ⟨c18b0, c18b1⟩ := BE c18
    clear c18
    (first | rw [c18b0] | rw [c18b1] | skip)
    replace H := BN H; obtain ⟨t411, A19, H⟩ := H
    replace H := GN H; obtain ⟨c21, H⟩ := H
    have c21b0 := decide_eq_false c21
    clear c21
    (first | rw [c21b0] | skip)
    have H' := Aside0.mk H
    clear H
    have p410 : 0 ≤ (x5_1 : Int) := of_decide_eq_true AS
    have q410 : (x5_1 : Int) < (l0.length : Int) := of_decide_eq_true AS
    obtain ⟨ad410, A410_6, c410_6, e410, hw410_0, hw410_1, hw410_2, hw410_3, hw410_4, hw410_5, hw410_6, l410_6, g410_6⟩ := at_T55 HR0.out x5_1 p410 q410
    obtain rfl := Option.some.inj e410
    have hx410_0 := HM.cell hw410_0
    have hx410_1 := HM.cell hw410_1
    have hx410_2 := HM.cell hw410_2
    have hx410_3 := HM.cell hw410_3
    have hx410_4 := HM.cell hw410_4
    have hx410_5 := HM.cell hw410_5
    have hx410_6 := HM.cell hw410_6
    replace p410 := eq_true p410
    replace q410 := eq_true q410
    go_wp2_with (first | ((with_reducible refine gC 56 rfl ?_); refine pC (some 77) rfl #[.slice A410_6 ((rd_T55 l0 x5_1).f4).length c410_6, .int .i64 (wrap64 ((wrap64 ((wrap64 ((wrap64 ((wrap64 ((wrap64 (x1_1 + 1)) + 1)) + 1)) + 1)) + 1)) + 1))] rfl Try.func56 (laws_heldStringS.calls k1 _ _ ((rd_T55 l0 x5_1).f4) (wrap64 ((wrap64 ((wrap64 ((wrap64 ((wrap64 ((wrap64 (x1_1 + 1)) + 1)) + 1)) + 1)) + 1)) + 1)) t411 _ (HM.came g410_6) l410_6 A19.out) ?_; rintro e w20 ⟨rfl, hR⟩; refine ⟨_, rfl, ?_⟩; replace HM := HM.call hR; clear hR))
    go_roundg k1
    case measure => have := HK1.out; omega
    case rel => exact ⟨(t411), (wrap64 (x5_1 + 1)), RS, RS, H', ⟨by have := HK1.out; omega⟩, (MD HM).pick []⟩
   ·have c3b0 := decide_eq_false c3
    clear c3
    first|rw [c3b0]|(simp only [i64_w, i32_w]; rw [c3b0])|skip
    obtain rfl := Option.some.inj H
    go_wp2
    go_ret
    exact ⟨ER, (MD HM).pick []⟩
mutual
def laws_FnExactReadCmds.j0 : Nat → ByteArray → List (S55) → Int → List (S55) → Bool → Option (Bool)
 | 0, _, _, _, _, _ => none
 | k + 1, x0, x3, x4, x5, x32 => if x32 = true then (none) else ((laws_markCmdS.f k x5 1).bind fun bt421 => ((laws_heldCmdS.f k bt421.2 1).bind fun t423 => (if t423 < 0 then (none) else (if t423 = bt421.1 then ((impl_ReadCmds.f k x0).bind fun bt424 => ((laws_eqCmdS.f k bt424.1 x3).bind fun t428 => (if t428 = true then (laws_FnExactReadCmds.j1 k bt421.2 bt421.1 (bt424.2 != x4)) else (laws_FnExactReadCmds.j1 k bt421.2 bt421.1 true)))) else (none)))))
def laws_FnExactReadCmds.j1 : Nat → List (S55) → Int → Bool → Option (Bool)
 | 0, _, _, _ => none
 | k + 1, x5, x7, x57 => if x57 = true then (none) else ((laws_heldCmdS.f k x5 1).bind fun t429 => (if t429 < 0 then (none) else (if t429 = x7 then (some true) else (none))))
end
def laws_FnExactReadCmds.f (k : Nat) (a0 : ByteArray) : Option (Bool) := if (a0.size : Int) > 1048576 then (some true) else ((spec_ReadCmds.f k a0).bind fun bt412 => ((impl_ReadCmds.f k a0).bind fun bt416 => ((laws_eqCmdS.f k bt416.1 bt412.1).bind fun t420 => (if t420 = true then (laws_FnExactReadCmds.j0 k a0 bt412.1 bt412.2 bt416.1 (bt416.2 != bt412.2)) else (laws_FnExactReadCmds.j0 k a0 bt412.1 bt412.2 bt416.1 true)))))
theorem laws_FnExactReadCmds.calls (k : Nat) (a0 : ByteArray) (r : Bool) (w : World)  (h : laws_FnExactReadCmds.f k a0 = some r) :
  Calls Try.prog 3 #[.string a0] w fun e w' => e = .returned (.bool r) ∧ Below w.heap.size w w' := by
 have HM := Mem.nil w
 have H := h
 clear h
 unfold laws_FnExactReadCmds.f at H
 go_enter Try.func3, Try.ntmps3
 go_upto_if 13 with (fail)
 replace H := IT H; rcases H with ⟨c2, H⟩ | ⟨c2, H⟩
 ·replace c2 : (a0.size : Int) > 1048576 := c2
  have c2b0 : decide (1048576 < (a0.size : Int)) = true := decide_eq_true c2
  have c2b1 : decide (1048576 < a0.size) = true := decide_eq_true (by omega)
  clear c2
  first|rw [c2b0]|(simp only [i64_w, i32_w]; rw [c2b0])|skip
  obtain rfl := Option.some.inj H
  go_wp2
  go_ret
  exact ⟨ER, HM.bel⟩
 ·replace c2 : ¬ ((a0.size : Int) > 1048576) := c2
  have c2b0 : decide (1048576 < (a0.size : Int)) = false := decide_eq_false c2
  have c2b1 : decide (1048576 < a0.size) = false := decide_eq_false (by omega)
  clear c2
  first|rw [c2b0]|(simp only [i64_w, i32_w]; rw [c2b0])|skip
  replace H := BN H; obtain ⟨⟨t412, t413⟩, A3, H⟩ := H
  replace H := BN H; obtain ⟨⟨t416, t417⟩, A5, H⟩ := H
  have HC7 := Aside0.mk H
  clear H
  go_upto_region 5 with (first | ((with_reducible refine gC 8 rfl ?_); refine pC (some 16) rfl #[.string a0] rfl Try.func8 (spec_ReadCmds.calls k a0 t412 t413 _ A3.out) ?_; rintro e w4 ⟨v414, rfl, hR⟩; refine ⟨_, rfl, ?_⟩; replace HM := HM.call hR; clear hR) | ((with_reducible refine gC 9 rfl ?_); refine pC (some 21) rfl #[.string a0] rfl Try.func9 (impl_ReadCmds.calls k a0 t416 t417 _ A5.out) ?_; rintro e w6 ⟨v418, rfl, hR⟩; refine ⟨_, rfl, ?_⟩; replace HM := HM.call hR; clear hR))
  replace HM := nzM HM
  go_cut [32] (fun v32 wc => ∃ (kq : Nat) (x32_6 : Bool), v32 = .bool x32_6 ∧ Aside0 (laws_FnExactReadCmds.j0 kq a0 t412 t413 t416 x32_6 = some r) ∧ Aside0 (kq ≤ k) ∧ Mem w [] wc [rr x55 55 v414 t412, rr x55 55 v418 t416])
  case first =>
   have H := HC7.out
   clear HC7
   replace H := BN H; obtain ⟨t420, A8, H⟩ := H
   replace H := IB H
   rcases H with ⟨c12, H⟩ | ⟨c12, H⟩
   ·subst c12
    have H' := Aside0.mk H
    clear H
    obtain ⟨Xo10, ko10, rfl⟩ := HM.rdRR 1 rfl
    obtain ⟨Xo11, ko11, rfl⟩ := HM.rdRR 0 rfl
    go_wp2_with (first | ((with_reducible refine gC 10 rfl ?_); refine pC (some 26) rfl #[.slice Xo10 t416.length ko10, .slice Xo11 t412.length ko11] rfl Try.func10 (laws_eqCmdS.calls k _ _ t416 _ _ t412 true _ (HM.CRR 1 rfl).2.2 (HM.CRR 1 rfl).2.1 (HM.CRR 0 rfl).2.2 (HM.CRR 0 rfl).2.1 A8.out) ?_; rintro e w9 ⟨rfl, hR⟩; refine ⟨_, rfl, ?_⟩; replace HM := HM.call hR; clear hR))
    go_meet
    case rel => exact ⟨_, ((t417 != t413)), RS, H', ⟨by first | omega | exact Nat.le_refl _⟩, (MD HM).pick [0, 1]⟩
   ·subst c12
    have H' := Aside0.mk H
    clear H
    obtain ⟨Xo10, ko10, rfl⟩ := HM.rdRR 1 rfl
    obtain ⟨Xo11, ko11, rfl⟩ := HM.rdRR 0 rfl
    go_wp2_with (first | ((with_reducible refine gC 10 rfl ?_); refine pC (some 26) rfl #[.slice Xo10 t416.length ko10, .slice Xo11 t412.length ko11] rfl Try.func10 (laws_eqCmdS.calls k _ _ t416 _ _ t412 false _ (HM.CRR 1 rfl).2.2 (HM.CRR 1 rfl).2.1 (HM.CRR 0 rfl).2.2 (HM.CRR 0 rfl).2.1 A8.out) ?_; rintro e w9 ⟨rfl, hR⟩; refine ⟨_, rfl, ?_⟩; replace HM := HM.call hR; clear hR))
    go_meet
    case rel => exact ⟨_, (true), RS, H', ⟨by first | omega | exact Nat.le_refl _⟩, (MD HM).pick [0, 1]⟩
  case rest =>
   clear HC7 HM
   obtain ⟨kq, x32_6, rfl, HA, HJ6, HM⟩ := hcut
   cases kq with
   | zero => exact absurd HA.out (by simp [laws_FnExactReadCmds.j0])
   | succ kj6 =>
    have H := HA.out
    clear HA
    simp only [laws_FnExactReadCmds.j0] at H
    replace H := GN H
    obtain ⟨c13, H⟩ := H
    replace c13 := Bool.eq_false_iff.mpr c13
    subst c13
    replace H := BN H; obtain ⟨⟨t421, t422⟩, A14, H⟩ := H
    replace H := BN H; obtain ⟨t423, A16, H⟩ := H
    replace H := GN H; obtain ⟨c19, H⟩ := H
    have c19b0 : decide (t423 < 0) = false := decide_eq_false c19
    clear c19
    replace H := GD H; obtain ⟨c20, H⟩ := H
    have c20b0 : (t423 == t421) = true := beq_iff_eq.mpr c20
    have c20b1 : (t423 != t421) = false := bne_eq_false_iff_eq.mpr c20
    clear c20
    replace H := BN H; obtain ⟨⟨t424, t425⟩, A21, H⟩ := H
    have HC23 := Aside0.mk H
    clear H
    go_upto_region 16 with (first | ((with_reducible refine gC 11 rfl ?_); refine pC (some 35) rfl #[v418, .int .i64 1] rfl Try.func11 (laws_markCmdS.calls kj6 v418 t416 1 t421 t422 _ _ _ (HM.focus [0] [1]) A14.out) ?_; rintro e w15 ⟨rfl, hR⟩; refine ⟨_, rfl, ?_⟩; replace HM := nzM hR.unfocus; clear hR; obtain ⟨Xo18, ko18, rfl⟩ := HM.rdRR 1 rfl) | ((with_reducible refine gC 12 rfl ?_); refine pC (some 38) rfl #[.slice Xo18 t422.length ko18, .int .i64 1] rfl Try.func12 (laws_heldCmdS.calls kj6 _ _ t422 1 t423 _ (HM.CRR 1 rfl).2.2 (HM.CRR 1 rfl).2.1 A16.out) ?_; rintro e w17 ⟨rfl, hR⟩; refine ⟨_, rfl, ?_⟩; replace HM := HM.call hR; clear hR) | ((with_reducible refine gC 9 rfl ?_); refine pC (some 46) rfl #[.string a0] rfl Try.func9 (impl_ReadCmds.calls kj6 a0 t424 t425 _ A21.out) ?_; rintro e w22 ⟨v426, rfl, hR⟩; refine ⟨_, rfl, ?_⟩; replace HM := HM.call hR; clear hR))
    replace HM := nzM HM
    go_cut [57] (fun v57 wc => ∃ (kq : Nat) (x57_22 : Bool), v57 = .bool x57_22 ∧ Aside0 (laws_FnExactReadCmds.j1 kq t422 t421 x57_22 = some r) ∧ Aside0 (kq ≤ kj6) ∧ Mem w [] wc [rr x55 55 (.slice Xo18 t422.length ko18) t422])
    case first =>
     have H := HC23.out
     clear HC23
     replace H := BN H; obtain ⟨t428, A24, H⟩ := H
     replace H := IB H
     rcases H with ⟨c28, H⟩ | ⟨c28, H⟩
     ·subst c28
      have H' := Aside0.mk H
      clear H
      obtain ⟨Xo26, ko26, rfl⟩ := HM.rdRR 2 rfl
      obtain ⟨Xo27, ko27, rfl⟩ := HM.rdRR 0 rfl
      go_wp2_with (first | ((with_reducible refine gC 10 rfl ?_); refine pC (some 51) rfl #[.slice Xo26 t424.length ko26, .slice Xo27 t412.length ko27] rfl Try.func10 (laws_eqCmdS.calls kj6 _ _ t424 _ _ t412 true _ (HM.CRR 2 rfl).2.2 (HM.CRR 2 rfl).2.1 (HM.CRR 0 rfl).2.2 (HM.CRR 0 rfl).2.1 A24.out) ?_; rintro e w25 ⟨rfl, hR⟩; refine ⟨_, rfl, ?_⟩; replace HM := HM.call hR; clear hR))
      go_meet
      case rel => exact ⟨_, ((t425 != t413)), RS, H', ⟨by have := HJ6.out; first | omega | exact Nat.le_refl _⟩, (MD HM).pick [1]⟩
     ·subst c28
      have H' := Aside0.mk H
      clear H
      obtain ⟨Xo26, ko26, rfl⟩ := HM.rdRR 2 rfl
      obtain ⟨Xo27, ko27, rfl⟩ := HM.rdRR 0 rfl
      go_wp2_with (first | ((with_reducible refine gC 10 rfl ?_); refine pC (some 51) rfl #[.slice Xo26 t424.length ko26, .slice Xo27 t412.length ko27] rfl Try.func10 (laws_eqCmdS.calls kj6 _ _ t424 _ _ t412 false _ (HM.CRR 2 rfl).2.2 (HM.CRR 2 rfl).2.1 (HM.CRR 0 rfl).2.2 (HM.CRR 0 rfl).2.1 A24.out) ?_; rintro e w25 ⟨rfl, hR⟩; refine ⟨_, rfl, ?_⟩; replace HM := HM.call hR; clear hR))
      go_meet
      case rel => exact ⟨_, (true), RS, H', ⟨by have := HJ6.out; first | omega | exact Nat.le_refl _⟩, (MD HM).pick [1]⟩
    case rest =>
     clear HC23 HM
     obtain ⟨kq, x57_22, rfl, HA, HJ22, HM⟩ := hcut
     cases kq with
     | zero => exact absurd HA.out (by simp [laws_FnExactReadCmds.j1])
     | succ kj22 =>
      have H := HA.out
      clear HA
      simp only [laws_FnExactReadCmds.j1] at H
      replace H := GN H
      obtain ⟨c29, H⟩ := H
      replace c29 := Bool.eq_false_iff.mpr c29
      subst c29
      replace H := BN H; obtain ⟨t429, A30, H⟩ := H
      replace H := GN H; obtain ⟨c32, H⟩ := H
      have c32b0 : decide (t429 < 0) = false := decide_eq_false c32
      clear c32
      replace H := GD H; obtain ⟨c33, H⟩ := H
      have c33b0 : (t429 == t421) = true := beq_iff_eq.mpr c33
      have c33b1 : (t429 != t421) = false := bne_eq_false_iff_eq.mpr c33
      clear c33
      obtain rfl := Option.some.inj H
      go_wp2_with (first | ((with_reducible refine gC 12 rfl ?_); refine pC (some 60) rfl #[.slice Xo18 t422.length ko18, .int .i64 1] rfl Try.func12 (laws_heldCmdS.calls kj22 _ _ t422 1 t429 _ (HM.CRR 0 rfl).2.2 (HM.CRR 0 rfl).2.1 A30.out) ?_; rintro e w31 ⟨rfl, hR⟩; refine ⟨_, rfl, ?_⟩; replace HM := HM.call hR; clear hR))
      go_ret
      exact ⟨ER, HM.bel⟩
end Go.Proofs.Ythnedklbobbkcaa.G
