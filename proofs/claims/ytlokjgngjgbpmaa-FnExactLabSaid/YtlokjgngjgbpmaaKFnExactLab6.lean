/- Part 6 of the claim FnExactLab, merged by pack.py (this session's program) out of: the print's words, cut to what is needed; texts that gen.py printed (it runs the kit's print in place); texts of this session. -/
import Derived.Test.YtlokjgngjgbpmaaKFnExactLab1
import Derived.Test.YtlokjgngjgbpmaaKFnExactLab3
import Derived.Test.YtlokjgngjgbpmaaKFnExactLab5
namespace Go.Proofs.Ytlokjgngjgbpmaa.Mm
end Go.Proofs.Ytlokjgngjgbpmaa.Mm
namespace Go.Proofs.Ytlokjgngjgbpmaa.Sh
end Go.Proofs.Ytlokjgngjgbpmaa.Sh
namespace Go.Proofs.Ytlokjgngjgbpmaa.G
open Go.RowKit Go.Proofs.YtlokjgngjgbpmaaW.PrintWords Go.Proofs.YtlokjgngjgbpmaaW.PrintLast Go.Proofs.YtlokjgngjgbpmaaW.PrintMore Go.Proofs.Ytlokjgngjgbpmaa.Sh
attribute [local go_sem] max2_int min2_int max_two min_two max_three min_three max_four min_four
set_option linter.unusedVariables false
set_option linter.unusedSimpArgs false
open Go.Proofs.Ytlokjgngjgbpmaa.Mm
def laws_markLabRowS.l0 : Nat → List (S33) → Int → Int → Option (Int × (List (S33)))
 | 0, _, _, _ => none
 | k + 1, x0, x1, x5 => if x5 < (x0.length : Int) then (if 0 ≤ x5 then ((some (x0.set (x5 : Int).toNat (⟨(⟨x1, (rd_T33 x0 x5).f0.f1, (rd_T33 x0 x5).f0.f2⟩ : S31), (rd_T33 x0 x5).f1, (rd_T33 x0 x5).f2⟩ : S33) : List (S33))).bind fun y1544 => ((some (y1544.set (x5 : Int).toNat (⟨(⟨(rd_T33 y1544 x5).f0.f0, wrap64 (x1 + 1), (rd_T33 y1544 x5).f0.f2⟩ : S31), (rd_T33 y1544 x5).f1, (rd_T33 y1544 x5).f2⟩ : S33) : List (S33))).bind fun y1545 => ((some (y1545.set (x5 : Int).toNat (⟨(⟨(rd_T33 y1545 x5).f0.f0, (rd_T33 y1545 x5).f0.f1, wrap64 ((wrap64 (x1 + 1)) + 1)⟩ : S31), (rd_T33 y1545 x5).f1, (rd_T33 y1545 x5).f2⟩ : S33) : List (S33))).bind fun y1546 => ((some (y1546.set (x5 : Int).toNat (⟨(⟨(rd_T33 y1546 x5).f0.f0, (rd_T33 y1546 x5).f0.f1, (rd_T33 y1546 x5).f0.f2⟩ : S31), wrap64 ((wrap64 ((wrap64 (x1 + 1)) + 1)) + 1), (rd_T33 y1546 x5).f2⟩ : S33) : List (S33))).bind fun y1547 => (laws_markLabRowS.l0 k (y1547.set (x5 : Int).toNat (⟨(⟨(rd_T33 y1547 x5).f0.f0, (rd_T33 y1547 x5).f0.f1, (rd_T33 y1547 x5).f0.f2⟩ : S31), (rd_T33 y1547 x5).f1, wrap64 ((wrap64 ((wrap64 ((wrap64 (x1 + 1)) + 1)) + 1)) + 1)⟩ : S33)) (wrap64 ((wrap64 ((wrap64 ((wrap64 ((wrap64 (x1 + 1)) + 1)) + 1)) + 1)) + 1)) (wrap64 (x5 + 1))))))) else (none)) else (some (x1, x0))
def laws_markLabRowS.f (k : Nat) (l0 : List (S33)) (a1 : Int) : Option (Int × (List (S33))) := laws_markLabRowS.l0 k l0 a1 0
set_option maxHeartbeats 8000000 in
set_option maxRecDepth 100000 in
theorem laws_markLabRowS.calls (k : Nat) (u9000_ : Value) (l0 : List (S33)) (a1 : Int) (r1 : Int) (r2 : List (S33)) (w0 w : World) (F : List SP)  (hM : Mem w0 F w [rowR k33 33 u9000_ l0]) (h : laws_markLabRowS.f k l0 a1 = some (r1, r2)) :
  Calls Try.prog 22 #[u9000_, .int .i64 a1] w fun e w' => e = .returned (.int .i64 r1) ∧ Mem w0 F w' [rowR k33 33 u9000_ r2] := by
 have HM := hM
 clear hM
 have H := h
 clear h
 unfold laws_markLabRowS.f at H
 go_enter Try.func22, Try.ntmps22
 have H' := Aside0.mk H
 clear H
 go_wp2
 go_loopg [1, 5] k (fun kq v1 v5 w' => ∃ (x0_1 : List (S33)) (x1_1 : Int) (x5_1 : Int), v1 = .int .i64 x1_1 ∧ v5 = .int .i64 x5_1 ∧ Aside0 (laws_markLabRowS.l0 kq x0_1 x1_1 x5_1 = some (r1, r2)) ∧ Aside0 (kq ≤ k) ∧ Mem w0 F w' [rowR k33 33 u9000_ x0_1])
 case atStart => exact ⟨(l0), (a1), (0), RS, RS, H', ⟨Nat.le_refl _⟩, (MD HM).pick [0]⟩
 case round =>
  clear H' HM
  obtain ⟨x0_1, x1_1, x5_1, rfl, rfl, HA, HK1, HM⟩ := hrel
  cases gk with
  | zero => exact absurd HA.out (by simp [laws_markLabRowS.l0])
  | succ k1 =>
   have H := HA.out
   clear HA
   simp only [laws_markLabRowS.l0] at H
   obtain ⟨Xo3, ko3, rfl⟩ := HM.rdR 0 rfl
   go_upto_if 9 with (fail)
   replace H := IT H; rcases H with ⟨c4, H⟩ | ⟨c4, H⟩
   ·have c4b0 := decide_eq_true c4
    clear c4
    first|rw [c4b0]|(simp only [i64_w, i32_w]; rw [c4b0])|skip
    replace H := GD H; obtain ⟨c5, H⟩ := H
    have c5b0 := decide_eq_true c5
    clear c5
    replace H := BLt H; obtain ⟨y1544, Ny1544, H⟩ := H
    replace Ny1544 := Aside0.mk Ny1544
    replace H := BLt H; obtain ⟨y1545, Ny1545, H⟩ := H
    replace Ny1545 := Aside0.mk Ny1545
    replace H := BLt H; obtain ⟨y1546, Ny1546, H⟩ := H
    replace Ny1546 := Aside0.mk Ny1546
    replace H := BLt H; obtain ⟨y1547, Ny1547, H⟩ := H
    replace Ny1547 := Aside0.mk Ny1547
    have H' := Aside0.mk H
    clear H
    have p6 : 0 ≤ (x5_1 : Int) := of_decide_eq_true AS
    have q6 : (x5_1 : Int) < ((x0_1.length : Int) : Int) := of_decide_eq_true AS
    obtain ⟨go6, ef6⟩ := HM.form 0 rfl (by have h_ := (HM.CR 0 rfl).1; omega)
    subst ef6
    obtain ⟨hcc6, hfr6⟩ := HM.el 0 rfl z33 (x5_1 : Int) p6 (by have h_ := (HM.CR 0 rfl).1; omega) [.int .i64 ((rd_T33 x0_1 x5_1).f0.f0), .int .i64 ((rd_T33 x0_1 x5_1).f0.f1), .int .i64 ((rd_T33 x0_1 x5_1).f0.f2), .int .i64 ((rd_T33 x0_1 x5_1).f1), .int .i64 ((rd_T33 x0_1 x5_1).f2)] (fun _ _ h => k33_openM h)
    have hx6_0 : wr.cell? ⟨go6, (x5_1 : Int).toNat * 5, none⟩ = some (.int .i64 ((rd_T33 x0_1 x5_1).f0.f0)) := (by have h_ := hcc6 0 _ rfl; first | exact h_ | (simp only [show (k33).sz = 5 from rfl, Nat.mul_one, Nat.add_zero] at h_; exact h_) | simpa using h_)
    have hf6_0 : wr.frozen? ⟨go6, (x5_1 : Int).toNat * 5, none⟩ = false := (by have h_ := hfr6 0; first | exact h_ | (simp only [show (k33).sz = 5 from rfl, Nat.mul_one, Nat.add_zero] at h_; exact h_) | simpa using h_)
    have hx6_1 : wr.cell? ⟨go6, (x5_1 : Int).toNat * 5 + 1, none⟩ = some (.int .i64 ((rd_T33 x0_1 x5_1).f0.f1)) := (by have h_ := hcc6 1 _ rfl; first | exact h_ | (simp only [show (k33).sz = 5 from rfl, Nat.mul_one, Nat.add_zero] at h_; exact h_) | simpa using h_)
    have hf6_1 : wr.frozen? ⟨go6, (x5_1 : Int).toNat * 5 + 1, none⟩ = false := (by have h_ := hfr6 1; first | exact h_ | (simp only [show (k33).sz = 5 from rfl, Nat.mul_one, Nat.add_zero] at h_; exact h_) | simpa using h_)
    have hx6_2 : wr.cell? ⟨go6, (x5_1 : Int).toNat * 5 + 2, none⟩ = some (.int .i64 ((rd_T33 x0_1 x5_1).f0.f2)) := (by have h_ := hcc6 2 _ rfl; first | exact h_ | (simp only [show (k33).sz = 5 from rfl, Nat.mul_one, Nat.add_zero] at h_; exact h_) | simpa using h_)
    have hf6_2 : wr.frozen? ⟨go6, (x5_1 : Int).toNat * 5 + 2, none⟩ = false := (by have h_ := hfr6 2; first | exact h_ | (simp only [show (k33).sz = 5 from rfl, Nat.mul_one, Nat.add_zero] at h_; exact h_) | simpa using h_)
    have hx6_3 : wr.cell? ⟨go6, (x5_1 : Int).toNat * 5 + 3, none⟩ = some (.int .i64 ((rd_T33 x0_1 x5_1).f1)) := (by have h_ := hcc6 3 _ rfl; first | exact h_ | (simp only [show (k33).sz = 5 from rfl, Nat.mul_one, Nat.add_zero] at h_; exact h_) | simpa using h_)
    have hf6_3 : wr.frozen? ⟨go6, (x5_1 : Int).toNat * 5 + 3, none⟩ = false := (by have h_ := hfr6 3; first | exact h_ | (simp only [show (k33).sz = 5 from rfl, Nat.mul_one, Nat.add_zero] at h_; exact h_) | simpa using h_)
    have hx6_4 : wr.cell? ⟨go6, (x5_1 : Int).toNat * 5 + 4, none⟩ = some (.int .i64 ((rd_T33 x0_1 x5_1).f2)) := (by have h_ := hcc6 4 _ rfl; first | exact h_ | (simp only [show (k33).sz = 5 from rfl, Nat.mul_one, Nat.add_zero] at h_; exact h_) | simpa using h_)
    have hf6_4 : wr.frozen? ⟨go6, (x5_1 : Int).toNat * 5 + 4, none⟩ = false := (by have h_ := hfr6 4; first | exact h_ | (simp only [show (k33).sz = 5 from rfl, Nat.mul_one, Nat.add_zero] at h_; exact h_) | simpa using h_)
    clear hcc6 hfr6
    replace p6 := eq_true p6
    replace q6 := eq_true q6
    go_wp2_with (first | ((with_reducible refine gS 17 rfl ?_); refine pPR 0 17 (x5_1 : Int) 0 [.int .i64 x1_1] k33 33 x0_1 (⟨(⟨x1_1, (rd_T33 x0_1 x5_1).f0.f1, (rd_T33 x0_1 x5_1).f0.f2⟩ : S31), (rd_T33 x0_1 x5_1).f1, (rd_T33 x0_1 x5_1).f2⟩ : S33) z33 [.int .i64 ((rd_T33 x0_1 x5_1).f0.f0), .int .i64 ((rd_T33 x0_1 x5_1).f0.f1), .int .i64 ((rd_T33 x0_1 x5_1).f0.f2), .int .i64 ((rd_T33 x0_1 x5_1).f1), .int .i64 ((rd_T33 x0_1 x5_1).f2)] HM rfl rfl (of_decide_eq_true AS) (by have h_ : (x5_1 : Int) < ((x0_1.length : Int) : Int) := of_decide_eq_true AS; have e_ := (HM.CR 0 rfl).1; omega) (fun _ _ h => k33_openM h) (k33_mkM _ _ _ (⟨(⟨x1_1, (rd_T33 x0_1 x5_1).f0.f1, (rd_T33 x0_1 x5_1).f0.f2⟩ : S31), (rd_T33 x0_1 x5_1).f1, (rd_T33 x0_1 x5_1).f2⟩ : S33)) ?_; clear HM; intro w7 HM; replace HM := HM.nm 0 rfl Ny1544.out; have p8 : 0 ≤ (x5_1 : Int) := of_decide_eq_true AS; have q8 : (x5_1 : Int) < ((x0_1.length : Int) : Int) := of_decide_eq_true AS; obtain ⟨hcc8, hfr8⟩ := HM.el 0 rfl z33 (x5_1 : Int) p8 (by have h_ := (HM.CR 0 rfl).1; omega) [.int .i64 ((rd_T33 y1544 x5_1).f0.f0), .int .i64 ((rd_T33 y1544 x5_1).f0.f1), .int .i64 ((rd_T33 y1544 x5_1).f0.f2), .int .i64 ((rd_T33 y1544 x5_1).f1), .int .i64 ((rd_T33 y1544 x5_1).f2)] (fun _ _ h => k33_openM h); have hx8_0 : w7.cell? ⟨go6, (x5_1 : Int).toNat * 5, none⟩ = some (.int .i64 ((rd_T33 y1544 x5_1).f0.f0)) := (by have h_ := hcc8 0 _ rfl; first | exact h_ | (simp only [show (k33).sz = 5 from rfl, Nat.mul_one, Nat.add_zero] at h_; exact h_) | simpa using h_); have hf8_0 : w7.frozen? ⟨go6, (x5_1 : Int).toNat * 5, none⟩ = false := (by have h_ := hfr8 0; first | exact h_ | (simp only [show (k33).sz = 5 from rfl, Nat.mul_one, Nat.add_zero] at h_; exact h_) | simpa using h_); have hx8_1 : w7.cell? ⟨go6, (x5_1 : Int).toNat * 5 + 1, none⟩ = some (.int .i64 ((rd_T33 y1544 x5_1).f0.f1)) := (by have h_ := hcc8 1 _ rfl; first | exact h_ | (simp only [show (k33).sz = 5 from rfl, Nat.mul_one, Nat.add_zero] at h_; exact h_) | simpa using h_); have hf8_1 : w7.frozen? ⟨go6, (x5_1 : Int).toNat * 5 + 1, none⟩ = false := (by have h_ := hfr8 1; first | exact h_ | (simp only [show (k33).sz = 5 from rfl, Nat.mul_one, Nat.add_zero] at h_; exact h_) | simpa using h_); have hx8_2 : w7.cell? ⟨go6, (x5_1 : Int).toNat * 5 + 2, none⟩ = some (.int .i64 ((rd_T33 y1544 x5_1).f0.f2)) := (by have h_ := hcc8 2 _ rfl; first | exact h_ | (simp only [show (k33).sz = 5 from rfl, Nat.mul_one, Nat.add_zero] at h_; exact h_) | simpa using h_); have hf8_2 : w7.frozen? ⟨go6, (x5_1 : Int).toNat * 5 + 2, none⟩ = false := (by have h_ := hfr8 2; first | exact h_ | (simp only [show (k33).sz = 5 from rfl, Nat.mul_one, Nat.add_zero] at h_; exact h_) | simpa using h_); have hx8_3 : w7.cell? ⟨go6, (x5_1 : Int).toNat * 5 + 3, none⟩ = some (.int .i64 ((rd_T33 y1544 x5_1).f1)) := (by have h_ := hcc8 3 _ rfl; first | exact h_ | (simp only [show (k33).sz = 5 from rfl, Nat.mul_one, Nat.add_zero] at h_; exact h_) | simpa using h_); have hf8_3 : w7.frozen? ⟨go6, (x5_1 : Int).toNat * 5 + 3, none⟩ = false := (by have h_ := hfr8 3; first | exact h_ | (simp only [show (k33).sz = 5 from rfl, Nat.mul_one, Nat.add_zero] at h_; exact h_) | simpa using h_); have hx8_4 : w7.cell? ⟨go6, (x5_1 : Int).toNat * 5 + 4, none⟩ = some (.int .i64 ((rd_T33 y1544 x5_1).f2)) := (by have h_ := hcc8 4 _ rfl; first | exact h_ | (simp only [show (k33).sz = 5 from rfl, Nat.mul_one, Nat.add_zero] at h_; exact h_) | simpa using h_); have hf8_4 : w7.frozen? ⟨go6, (x5_1 : Int).toNat * 5 + 4, none⟩ = false := (by have h_ := hfr8 4; first | exact h_ | (simp only [show (k33).sz = 5 from rfl, Nat.mul_one, Nat.add_zero] at h_; exact h_) | simpa using h_); clear hcc8 hfr8; replace p8 := eq_true p8; replace q8 := eq_true q8) | ((with_reducible refine gS 25 rfl ?_); refine pPR 0 25 (x5_1 : Int) 1 [.int .i64 (wrap64 (x1_1 + 1))] k33 33 y1544 (⟨(⟨(rd_T33 y1544 x5_1).f0.f0, wrap64 (x1_1 + 1), (rd_T33 y1544 x5_1).f0.f2⟩ : S31), (rd_T33 y1544 x5_1).f1, (rd_T33 y1544 x5_1).f2⟩ : S33) z33 [.int .i64 ((rd_T33 y1544 x5_1).f0.f0), .int .i64 ((rd_T33 y1544 x5_1).f0.f1), .int .i64 ((rd_T33 y1544 x5_1).f0.f2), .int .i64 ((rd_T33 y1544 x5_1).f1), .int .i64 ((rd_T33 y1544 x5_1).f2)] HM rfl rfl (of_decide_eq_true AS) (by have h_ : (x5_1 : Int) < ((x0_1.length : Int) : Int) := of_decide_eq_true AS; have e_ := (HM.CR 0 rfl).1; omega) (fun _ _ h => k33_openM h) (k33_mkM _ _ _ (⟨(⟨(rd_T33 y1544 x5_1).f0.f0, wrap64 (x1_1 + 1), (rd_T33 y1544 x5_1).f0.f2⟩ : S31), (rd_T33 y1544 x5_1).f1, (rd_T33 y1544 x5_1).f2⟩ : S33)) ?_; clear HM; intro w9 HM; replace HM := HM.nm 0 rfl Ny1545.out; have p10 : 0 ≤ (x5_1 : Int) := of_decide_eq_true AS; have q10 : (x5_1 : Int) < ((x0_1.length : Int) : Int) := of_decide_eq_true AS; obtain ⟨hcc10, hfr10⟩ := HM.el 0 rfl z33 (x5_1 : Int) p10 (by have h_ := (HM.CR 0 rfl).1; omega) [.int .i64 ((rd_T33 y1545 x5_1).f0.f0), .int .i64 ((rd_T33 y1545 x5_1).f0.f1), .int .i64 ((rd_T33 y1545 x5_1).f0.f2), .int .i64 ((rd_T33 y1545 x5_1).f1), .int .i64 ((rd_T33 y1545 x5_1).f2)] (fun _ _ h => k33_openM h); have hx10_0 : w9.cell? ⟨go6, (x5_1 : Int).toNat * 5, none⟩ = some (.int .i64 ((rd_T33 y1545 x5_1).f0.f0)) := (by have h_ := hcc10 0 _ rfl; first | exact h_ | (simp only [show (k33).sz = 5 from rfl, Nat.mul_one, Nat.add_zero] at h_; exact h_) | simpa using h_); have hf10_0 : w9.frozen? ⟨go6, (x5_1 : Int).toNat * 5, none⟩ = false := (by have h_ := hfr10 0; first | exact h_ | (simp only [show (k33).sz = 5 from rfl, Nat.mul_one, Nat.add_zero] at h_; exact h_) | simpa using h_); have hx10_1 : w9.cell? ⟨go6, (x5_1 : Int).toNat * 5 + 1, none⟩ = some (.int .i64 ((rd_T33 y1545 x5_1).f0.f1)) := (by have h_ := hcc10 1 _ rfl; first | exact h_ | (simp only [show (k33).sz = 5 from rfl, Nat.mul_one, Nat.add_zero] at h_; exact h_) | simpa using h_); have hf10_1 : w9.frozen? ⟨go6, (x5_1 : Int).toNat * 5 + 1, none⟩ = false := (by have h_ := hfr10 1; first | exact h_ | (simp only [show (k33).sz = 5 from rfl, Nat.mul_one, Nat.add_zero] at h_; exact h_) | simpa using h_); have hx10_2 : w9.cell? ⟨go6, (x5_1 : Int).toNat * 5 + 2, none⟩ = some (.int .i64 ((rd_T33 y1545 x5_1).f0.f2)) := (by have h_ := hcc10 2 _ rfl; first | exact h_ | (simp only [show (k33).sz = 5 from rfl, Nat.mul_one, Nat.add_zero] at h_; exact h_) | simpa using h_); have hf10_2 : w9.frozen? ⟨go6, (x5_1 : Int).toNat * 5 + 2, none⟩ = false := (by have h_ := hfr10 2; first | exact h_ | (simp only [show (k33).sz = 5 from rfl, Nat.mul_one, Nat.add_zero] at h_; exact h_) | simpa using h_); have hx10_3 : w9.cell? ⟨go6, (x5_1 : Int).toNat * 5 + 3, none⟩ = some (.int .i64 ((rd_T33 y1545 x5_1).f1)) := (by have h_ := hcc10 3 _ rfl; first | exact h_ | (simp only [show (k33).sz = 5 from rfl, Nat.mul_one, Nat.add_zero] at h_; exact h_) | simpa using h_); have hf10_3 : w9.frozen? ⟨go6, (x5_1 : Int).toNat * 5 + 3, none⟩ = false := (by have h_ := hfr10 3; first | exact h_ | (simp only [show (k33).sz = 5 from rfl, Nat.mul_one, Nat.add_zero] at h_; exact h_) | simpa using h_); have hx10_4 : w9.cell? ⟨go6, (x5_1 : Int).toNat * 5 + 4, none⟩ = some (.int .i64 ((rd_T33 y1545 x5_1).f2)) := (by have h_ := hcc10 4 _ rfl; first | exact h_ | (simp only [show (k33).sz = 5 from rfl, Nat.mul_one, Nat.add_zero] at h_; exact h_) | simpa using h_); have hf10_4 : w9.frozen? ⟨go6, (x5_1 : Int).toNat * 5 + 4, none⟩ = false := (by have h_ := hfr10 4; first | exact h_ | (simp only [show (k33).sz = 5 from rfl, Nat.mul_one, Nat.add_zero] at h_; exact h_) | simpa using h_); clear hcc10 hfr10; replace p10 := eq_true p10; replace q10 := eq_true q10) | ((with_reducible refine gS 33 rfl ?_); refine pPR 0 33 (x5_1 : Int) 2 [.int .i64 (wrap64 ((wrap64 (x1_1 + 1)) + 1))] k33 33 y1545 (⟨(⟨(rd_T33 y1545 x5_1).f0.f0, (rd_T33 y1545 x5_1).f0.f1, wrap64 ((wrap64 (x1_1 + 1)) + 1)⟩ : S31), (rd_T33 y1545 x5_1).f1, (rd_T33 y1545 x5_1).f2⟩ : S33) z33 [.int .i64 ((rd_T33 y1545 x5_1).f0.f0), .int .i64 ((rd_T33 y1545 x5_1).f0.f1), .int .i64 ((rd_T33 y1545 x5_1).f0.f2), .int .i64 ((rd_T33 y1545 x5_1).f1), .int .i64 ((rd_T33 y1545 x5_1).f2)] HM rfl rfl (of_decide_eq_true AS) (by have h_ : (x5_1 : Int) < ((x0_1.length : Int) : Int) := of_decide_eq_true AS; have e_ := (HM.CR 0 rfl).1; omega) (fun _ _ h => k33_openM h) (k33_mkM _ _ _ (⟨(⟨(rd_T33 y1545 x5_1).f0.f0, (rd_T33 y1545 x5_1).f0.f1, wrap64 ((wrap64 (x1_1 + 1)) + 1)⟩ : S31), (rd_T33 y1545 x5_1).f1, (rd_T33 y1545 x5_1).f2⟩ : S33)) ?_; clear HM; intro w11 HM; replace HM := HM.nm 0 rfl Ny1546.out; have p12 : 0 ≤ (x5_1 : Int) := of_decide_eq_true AS; have q12 : (x5_1 : Int) < ((x0_1.length : Int) : Int) := of_decide_eq_true AS; obtain ⟨hcc12, hfr12⟩ := HM.el 0 rfl z33 (x5_1 : Int) p12 (by have h_ := (HM.CR 0 rfl).1; omega) [.int .i64 ((rd_T33 y1546 x5_1).f0.f0), .int .i64 ((rd_T33 y1546 x5_1).f0.f1), .int .i64 ((rd_T33 y1546 x5_1).f0.f2), .int .i64 ((rd_T33 y1546 x5_1).f1), .int .i64 ((rd_T33 y1546 x5_1).f2)] (fun _ _ h => k33_openM h); have hx12_0 : w11.cell? ⟨go6, (x5_1 : Int).toNat * 5, none⟩ = some (.int .i64 ((rd_T33 y1546 x5_1).f0.f0)) := (by have h_ := hcc12 0 _ rfl; first | exact h_ | (simp only [show (k33).sz = 5 from rfl, Nat.mul_one, Nat.add_zero] at h_; exact h_) | simpa using h_); have hf12_0 : w11.frozen? ⟨go6, (x5_1 : Int).toNat * 5, none⟩ = false := (by have h_ := hfr12 0; first | exact h_ | (simp only [show (k33).sz = 5 from rfl, Nat.mul_one, Nat.add_zero] at h_; exact h_) | simpa using h_); have hx12_1 : w11.cell? ⟨go6, (x5_1 : Int).toNat * 5 + 1, none⟩ = some (.int .i64 ((rd_T33 y1546 x5_1).f0.f1)) := (by have h_ := hcc12 1 _ rfl; first | exact h_ | (simp only [show (k33).sz = 5 from rfl, Nat.mul_one, Nat.add_zero] at h_; exact h_) | simpa using h_); have hf12_1 : w11.frozen? ⟨go6, (x5_1 : Int).toNat * 5 + 1, none⟩ = false := (by have h_ := hfr12 1; first | exact h_ | (simp only [show (k33).sz = 5 from rfl, Nat.mul_one, Nat.add_zero] at h_; exact h_) | simpa using h_); have hx12_2 : w11.cell? ⟨go6, (x5_1 : Int).toNat * 5 + 2, none⟩ = some (.int .i64 ((rd_T33 y1546 x5_1).f0.f2)) := (by have h_ := hcc12 2 _ rfl; first | exact h_ | (simp only [show (k33).sz = 5 from rfl, Nat.mul_one, Nat.add_zero] at h_; exact h_) | simpa using h_); have hf12_2 : w11.frozen? ⟨go6, (x5_1 : Int).toNat * 5 + 2, none⟩ = false := (by have h_ := hfr12 2; first | exact h_ | (simp only [show (k33).sz = 5 from rfl, Nat.mul_one, Nat.add_zero] at h_; exact h_) | simpa using h_); have hx12_3 : w11.cell? ⟨go6, (x5_1 : Int).toNat * 5 + 3, none⟩ = some (.int .i64 ((rd_T33 y1546 x5_1).f1)) := (by have h_ := hcc12 3 _ rfl; first | exact h_ | (simp only [show (k33).sz = 5 from rfl, Nat.mul_one, Nat.add_zero] at h_; exact h_) | simpa using h_); have hf12_3 : w11.frozen? ⟨go6, (x5_1 : Int).toNat * 5 + 3, none⟩ = false := (by have h_ := hfr12 3; first | exact h_ | (simp only [show (k33).sz = 5 from rfl, Nat.mul_one, Nat.add_zero] at h_; exact h_) | simpa using h_); have hx12_4 : w11.cell? ⟨go6, (x5_1 : Int).toNat * 5 + 4, none⟩ = some (.int .i64 ((rd_T33 y1546 x5_1).f2)) := (by have h_ := hcc12 4 _ rfl; first | exact h_ | (simp only [show (k33).sz = 5 from rfl, Nat.mul_one, Nat.add_zero] at h_; exact h_) | simpa using h_); have hf12_4 : w11.frozen? ⟨go6, (x5_1 : Int).toNat * 5 + 4, none⟩ = false := (by have h_ := hfr12 4; first | exact h_ | (simp only [show (k33).sz = 5 from rfl, Nat.mul_one, Nat.add_zero] at h_; exact h_) | simpa using h_); clear hcc12 hfr12; replace p12 := eq_true p12; replace q12 := eq_true q12) | ((with_reducible refine gS 40 rfl ?_); refine pPR 0 40 (x5_1 : Int) 3 [.int .i64 (wrap64 ((wrap64 ((wrap64 (x1_1 + 1)) + 1)) + 1))] k33 33 y1546 (⟨(⟨(rd_T33 y1546 x5_1).f0.f0, (rd_T33 y1546 x5_1).f0.f1, (rd_T33 y1546 x5_1).f0.f2⟩ : S31), wrap64 ((wrap64 ((wrap64 (x1_1 + 1)) + 1)) + 1), (rd_T33 y1546 x5_1).f2⟩ : S33) z33 [.int .i64 ((rd_T33 y1546 x5_1).f0.f0), .int .i64 ((rd_T33 y1546 x5_1).f0.f1), .int .i64 ((rd_T33 y1546 x5_1).f0.f2), .int .i64 ((rd_T33 y1546 x5_1).f1), .int .i64 ((rd_T33 y1546 x5_1).f2)] HM rfl rfl (of_decide_eq_true AS) (by have h_ : (x5_1 : Int) < ((x0_1.length : Int) : Int) := of_decide_eq_true AS; have e_ := (HM.CR 0 rfl).1; omega) (fun _ _ h => k33_openM h) (k33_mkM _ _ _ (⟨(⟨(rd_T33 y1546 x5_1).f0.f0, (rd_T33 y1546 x5_1).f0.f1, (rd_T33 y1546 x5_1).f0.f2⟩ : S31), wrap64 ((wrap64 ((wrap64 (x1_1 + 1)) + 1)) + 1), (rd_T33 y1546 x5_1).f2⟩ : S33)) ?_; clear HM; intro w13 HM; replace HM := HM.nm 0 rfl Ny1547.out; have p14 : 0 ≤ (x5_1 : Int) := of_decide_eq_true AS; have q14 : (x5_1 : Int) < ((x0_1.length : Int) : Int) := of_decide_eq_true AS; obtain ⟨hcc14, hfr14⟩ := HM.el 0 rfl z33 (x5_1 : Int) p14 (by have h_ := (HM.CR 0 rfl).1; omega) [.int .i64 ((rd_T33 y1547 x5_1).f0.f0), .int .i64 ((rd_T33 y1547 x5_1).f0.f1), .int .i64 ((rd_T33 y1547 x5_1).f0.f2), .int .i64 ((rd_T33 y1547 x5_1).f1), .int .i64 ((rd_T33 y1547 x5_1).f2)] (fun _ _ h => k33_openM h); have hx14_0 : w13.cell? ⟨go6, (x5_1 : Int).toNat * 5, none⟩ = some (.int .i64 ((rd_T33 y1547 x5_1).f0.f0)) := (by have h_ := hcc14 0 _ rfl; first | exact h_ | (simp only [show (k33).sz = 5 from rfl, Nat.mul_one, Nat.add_zero] at h_; exact h_) | simpa using h_); have hf14_0 : w13.frozen? ⟨go6, (x5_1 : Int).toNat * 5, none⟩ = false := (by have h_ := hfr14 0; first | exact h_ | (simp only [show (k33).sz = 5 from rfl, Nat.mul_one, Nat.add_zero] at h_; exact h_) | simpa using h_); have hx14_1 : w13.cell? ⟨go6, (x5_1 : Int).toNat * 5 + 1, none⟩ = some (.int .i64 ((rd_T33 y1547 x5_1).f0.f1)) := (by have h_ := hcc14 1 _ rfl; first | exact h_ | (simp only [show (k33).sz = 5 from rfl, Nat.mul_one, Nat.add_zero] at h_; exact h_) | simpa using h_); have hf14_1 : w13.frozen? ⟨go6, (x5_1 : Int).toNat * 5 + 1, none⟩ = false := (by have h_ := hfr14 1; first | exact h_ | (simp only [show (k33).sz = 5 from rfl, Nat.mul_one, Nat.add_zero] at h_; exact h_) | simpa using h_); have hx14_2 : w13.cell? ⟨go6, (x5_1 : Int).toNat * 5 + 2, none⟩ = some (.int .i64 ((rd_T33 y1547 x5_1).f0.f2)) := (by have h_ := hcc14 2 _ rfl; first | exact h_ | (simp only [show (k33).sz = 5 from rfl, Nat.mul_one, Nat.add_zero] at h_; exact h_) | simpa using h_); have hf14_2 : w13.frozen? ⟨go6, (x5_1 : Int).toNat * 5 + 2, none⟩ = false := (by have h_ := hfr14 2; first | exact h_ | (simp only [show (k33).sz = 5 from rfl, Nat.mul_one, Nat.add_zero] at h_; exact h_) | simpa using h_); have hx14_3 : w13.cell? ⟨go6, (x5_1 : Int).toNat * 5 + 3, none⟩ = some (.int .i64 ((rd_T33 y1547 x5_1).f1)) := (by have h_ := hcc14 3 _ rfl; first | exact h_ | (simp only [show (k33).sz = 5 from rfl, Nat.mul_one, Nat.add_zero] at h_; exact h_) | simpa using h_); have hf14_3 : w13.frozen? ⟨go6, (x5_1 : Int).toNat * 5 + 3, none⟩ = false := (by have h_ := hfr14 3; first | exact h_ | (simp only [show (k33).sz = 5 from rfl, Nat.mul_one, Nat.add_zero] at h_; exact h_) | simpa using h_); have hx14_4 : w13.cell? ⟨go6, (x5_1 : Int).toNat * 5 + 4, none⟩ = some (.int .i64 ((rd_T33 y1547 x5_1).f2)) := (by have h_ := hcc14 4 _ rfl; first | exact h_ | (simp only [show (k33).sz = 5 from rfl, Nat.mul_one, Nat.add_zero] at h_; exact h_) | simpa using h_); have hf14_4 : w13.frozen? ⟨go6, (x5_1 : Int).toNat * 5 + 4, none⟩ = false := (by have h_ := hfr14 4; first | exact h_ | (simp only [show (k33).sz = 5 from rfl, Nat.mul_one, Nat.add_zero] at h_; exact h_) | simpa using h_); clear hcc14 hfr14; replace p14 := eq_true p14; replace q14 := eq_true q14) | ((with_reducible refine gS 47 rfl ?_); refine pPR 0 47 (x5_1 : Int) 4 [.int .i64 (wrap64 ((wrap64 ((wrap64 ((wrap64 (x1_1 + 1)) + 1)) + 1)) + 1))] k33 33 y1547 (⟨(⟨(rd_T33 y1547 x5_1).f0.f0, (rd_T33 y1547 x5_1).f0.f1, (rd_T33 y1547 x5_1).f0.f2⟩ : S31), (rd_T33 y1547 x5_1).f1, wrap64 ((wrap64 ((wrap64 ((wrap64 (x1_1 + 1)) + 1)) + 1)) + 1)⟩ : S33) z33 [.int .i64 ((rd_T33 y1547 x5_1).f0.f0), .int .i64 ((rd_T33 y1547 x5_1).f0.f1), .int .i64 ((rd_T33 y1547 x5_1).f0.f2), .int .i64 ((rd_T33 y1547 x5_1).f1), .int .i64 ((rd_T33 y1547 x5_1).f2)] HM rfl rfl (of_decide_eq_true AS) (by have h_ : (x5_1 : Int) < ((x0_1.length : Int) : Int) := of_decide_eq_true AS; have e_ := (HM.CR 0 rfl).1; omega) (fun _ _ h => k33_openM h) (k33_mkM _ _ _ (⟨(⟨(rd_T33 y1547 x5_1).f0.f0, (rd_T33 y1547 x5_1).f0.f1, (rd_T33 y1547 x5_1).f0.f2⟩ : S31), (rd_T33 y1547 x5_1).f1, wrap64 ((wrap64 ((wrap64 ((wrap64 (x1_1 + 1)) + 1)) + 1)) + 1)⟩ : S33)) ?_; clear HM; intro w15 HM))
    go_roundg k1
    case measure => have := HK1.out; omega
    case rel => exact ⟨((y1547.set (x5_1 : Int).toNat (⟨(⟨(rd_T33 y1547 x5_1).f0.f0, (rd_T33 y1547 x5_1).f0.f1, (rd_T33 y1547 x5_1).f0.f2⟩ : S31), (rd_T33 y1547 x5_1).f1, wrap64 ((wrap64 ((wrap64 ((wrap64 (x1_1 + 1)) + 1)) + 1)) + 1)⟩ : S33))), (wrap64 ((wrap64 ((wrap64 ((wrap64 ((wrap64 (x1_1 + 1)) + 1)) + 1)) + 1)) + 1)), (wrap64 (x5_1 + 1)), RS, RS, H', ⟨by have := HK1.out; omega⟩, (MD HM).pick [0]⟩
   ·have c4b0 := decide_eq_false c4
    clear c4
    first|rw [c4b0]|(simp only [i64_w, i32_w]; rw [c4b0])|skip
    simp only [Option.some.injEq, Prod.mk.injEq] at H
    obtain ⟨rfl, rfl⟩ := H
    go_wp2
    go_ret
    exact ⟨ER, (MD HM).pick [0]⟩
end Go.Proofs.Ytlokjgngjgbpmaa.G

namespace Go.Proofs.Ytlokjgngjgbpmaa.G
open Go.RowKit Go.Proofs.YtlokjgngjgbpmaaW.PrintWords Go.Proofs.YtlokjgngjgbpmaaW.PrintLast Go.Proofs.YtlokjgngjgbpmaaW.PrintMore Go.Proofs.Ytlokjgngjgbpmaa.Sh
attribute [local go_sem] max2_int min2_int max_two min_two max_three min_three max_four min_four
set_option linter.unusedVariables false
set_option linter.unusedSimpArgs false
def laws_heldLabRowS.l0 : Nat → List (S33) → Int → Int → Option (Int)
 | 0, _, _, _ => none
 | k + 1, x0, x1, x5 => if x5 < (x0.length : Int) then (if 0 ≤ x5 then (if ((rd_T33 x0 x5).f0.f0) = x1 then (if ((rd_T33 x0 x5).f0.f1) = (wrap64 (x1 + 1)) then (if ((rd_T33 x0 x5).f0.f2) = (wrap64 ((wrap64 (x1 + 1)) + 1)) then (if ((rd_T33 x0 x5).f1) = (wrap64 ((wrap64 ((wrap64 (x1 + 1)) + 1)) + 1)) then (if ((rd_T33 x0 x5).f2) = (wrap64 ((wrap64 ((wrap64 ((wrap64 (x1 + 1)) + 1)) + 1)) + 1)) then (laws_heldLabRowS.l0 k x0 (wrap64 ((wrap64 ((wrap64 ((wrap64 ((wrap64 (x1 + 1)) + 1)) + 1)) + 1)) + 1)) (wrap64 (x5 + 1))) else (none)) else (none)) else (none)) else (none)) else (none)) else (none)) else (some x1)
def laws_heldLabRowS.f (k : Nat) (l0 : List (S33)) (a1 : Int) : Option (Int) := laws_heldLabRowS.l0 k l0 a1 0
set_option maxHeartbeats 8000000 in
set_option maxRecDepth 100000 in
theorem laws_heldLabRowS.calls (k : Nat) (A0 : Option Addr) (c0 : Nat) (l0 : List (S33)) (a1 : Int) (r : Int) (w : World) (hr0 : Kd.C k33 w A0 l0.length l0) (hc0 : l0.length ≤ c0) (h : laws_heldLabRowS.f k l0 a1 = some r) :
  Calls Try.prog 23 #[.slice A0 l0.length c0, .int .i64 a1] w fun e w' => e = .returned (.int .i64 r) ∧ Drawn0 w w' := by
 have HR0 := Aside0.mk hr0
 have HC0 := Aside0.mk hc0
 clear hr0 hc0
 have H : (laws_heldLabRowS.l0 k l0 a1 0) = some r := h
 clear h
 have H' := Aside0.mk H
 clear H
 go_enter Try.func23, Try.ntmps23
 go_wp2
 go_loopg [1, 5] k (fun kq v1 v5 w' => ∃ (x1_1 : Int) (x5_1 : Int), v1 = .int .i64 x1_1 ∧ v5 = .int .i64 x5_1 ∧ Aside0 (laws_heldLabRowS.l0 kq l0 x1_1 x5_1 = some r) ∧ Aside0 (kq ≤ k) ∧ Drawn0 w w')
 case atStart => exact ⟨(a1), (0), RS, RS, H', ⟨Nat.le_refl _⟩, DR⟩
 case round =>
  clear H'
  try clear c2
  try clear p2
  obtain ⟨x1_1, x5_1, rfl, rfl, HA, HK1, ⟨m1, rfl⟩⟩ := hrel
  cases gk with
  | zero => exact absurd HA.out (by simp [laws_heldLabRowS.l0])
  | succ k1 =>
   have H := HA.out
   clear HA
   simp only [laws_heldLabRowS.l0] at H
   by_cases c3 : x5_1 < (l0.length : Int)
   ·rw [if_pos c3] at H
    have c3b0 : decide (x5_1 < (l0.length : Int)) = true := decide_eq_true c3
    clear c3
    by_cases c4 : 0 ≤ x5_1
    ·rw [if_pos c4] at H
     have c4b0 : decide (0 ≤ x5_1) = true := decide_eq_true c4
     clear c4
     by_cases c5 : ((rd_T33 l0 x5_1).f0.f0) = x1_1
     ·rw [if_pos c5] at H
      have c5b0 : (((rd_T33 l0 x5_1).f0.f0) == x1_1) = true := beq_iff_eq.mpr c5
      have c5b1 : (((rd_T33 l0 x5_1).f0.f0) != x1_1) = false := bne_eq_false_iff_eq.mpr c5
      clear c5
      by_cases c6 : ((rd_T33 l0 x5_1).f0.f1) = (wrap64 (x1_1 + 1))
      ·rw [if_pos c6] at H
       have c6b0 : (((rd_T33 l0 x5_1).f0.f1) == (wrap64 (x1_1 + 1))) = true := beq_iff_eq.mpr c6
       have c6b1 : (((rd_T33 l0 x5_1).f0.f1) != (wrap64 (x1_1 + 1))) = false := bne_eq_false_iff_eq.mpr c6
       clear c6
       by_cases c7 : ((rd_T33 l0 x5_1).f0.f2) = (wrap64 ((wrap64 (x1_1 + 1)) + 1))
       ·rw [if_pos c7] at H
        have c7b0 : (((rd_T33 l0 x5_1).f0.f2) == (wrap64 ((wrap64 (x1_1 + 1)) + 1))) = true := beq_iff_eq.mpr c7
        have c7b1 : (((rd_T33 l0 x5_1).f0.f2) != (wrap64 ((wrap64 (x1_1 + 1)) + 1))) = false := bne_eq_false_iff_eq.mpr c7
        clear c7
        by_cases c8 : ((rd_T33 l0 x5_1).f1) = (wrap64 ((wrap64 ((wrap64 (x1_1 + 1)) + 1)) + 1))
        ·rw [if_pos c8] at H
         have c8b0 : (((rd_T33 l0 x5_1).f1) == (wrap64 ((wrap64 ((wrap64 (x1_1 + 1)) + 1)) + 1))) = true := beq_iff_eq.mpr c8
         have c8b1 : (((rd_T33 l0 x5_1).f1) != (wrap64 ((wrap64 ((wrap64 (x1_1 + 1)) + 1)) + 1))) = false := bne_eq_false_iff_eq.mpr c8
         clear c8
         by_cases c9 : ((rd_T33 l0 x5_1).f2) = (wrap64 ((wrap64 ((wrap64 ((wrap64 (x1_1 + 1)) + 1)) + 1)) + 1))
         ·rw [if_pos c9] at H
          have c9b0 : (((rd_T33 l0 x5_1).f2) == (wrap64 ((wrap64 ((wrap64 ((wrap64 (x1_1 + 1)) + 1)) + 1)) + 1))) = true := beq_iff_eq.mpr c9
          have c9b1 : (((rd_T33 l0 x5_1).f2) != (wrap64 ((wrap64 ((wrap64 ((wrap64 (x1_1 + 1)) + 1)) + 1)) + 1))) = false := bne_eq_false_iff_eq.mpr c9
          clear c9
          have H' := Aside0.mk H
          clear H
          have p1554 : 0 ≤ (x5_1 : Int) := of_decide_eq_true AS
          have q1554 : x5_1 < (l0.length : Int) := of_decide_eq_true AS
          obtain ⟨ad1554, e1554, hx1554_0, hx1554_1, hx1554_2, hx1554_3, hx1554_4⟩ := at_T33 HR0.out x5_1 p1554 q1554
          cases e1554
          replace p1554 := eq_true p1554
          replace q1554 := eq_true q1554
          have p1555 : 0 ≤ (x5_1 : Int) := of_decide_eq_true AS
          have q1555 : x5_1 < (l0.length : Int) := of_decide_eq_true AS
          obtain ⟨ad1555, e1555, hx1555_0, hx1555_1, hx1555_2, hx1555_3, hx1555_4⟩ := at_T33 HR0.out x5_1 p1555 q1555
          obtain rfl : ad1554 = ad1555 := (by injection e1555)
          replace p1555 := eq_true p1555
          replace q1555 := eq_true q1555
          have p1556 : 0 ≤ (x5_1 : Int) := of_decide_eq_true AS
          have q1556 : x5_1 < (l0.length : Int) := of_decide_eq_true AS
          obtain ⟨ad1556, e1556, hx1556_0, hx1556_1, hx1556_2, hx1556_3, hx1556_4⟩ := at_T33 HR0.out x5_1 p1556 q1556
          obtain rfl : ad1554 = ad1556 := (by injection e1556)
          replace p1556 := eq_true p1556
          replace q1556 := eq_true q1556
          have p1557 : 0 ≤ (x5_1 : Int) := of_decide_eq_true AS
          have q1557 : x5_1 < (l0.length : Int) := of_decide_eq_true AS
          obtain ⟨ad1557, e1557, hx1557_0, hx1557_1, hx1557_2, hx1557_3, hx1557_4⟩ := at_T33 HR0.out x5_1 p1557 q1557
          obtain rfl : ad1554 = ad1557 := (by injection e1557)
          replace p1557 := eq_true p1557
          replace q1557 := eq_true q1557
          have p1558 : 0 ≤ (x5_1 : Int) := of_decide_eq_true AS
          have q1558 : x5_1 < (l0.length : Int) := of_decide_eq_true AS
          obtain ⟨ad1558, e1558, hx1558_0, hx1558_1, hx1558_2, hx1558_3, hx1558_4⟩ := at_T33 HR0.out x5_1 p1558 q1558
          obtain rfl : ad1554 = ad1558 := (by injection e1558)
          replace p1558 := eq_true p1558
          replace q1558 := eq_true q1558
          go_wp2
          go_roundg k1
          case measure => have := HK1.out; omega
          case rel => exact ⟨(wrap64 ((wrap64 ((wrap64 ((wrap64 ((wrap64 (x1_1 + 1)) + 1)) + 1)) + 1)) + 1)), (wrap64 (x5_1 + 1)), RS, RS, H', ⟨by have := HK1.out; omega⟩, DR⟩
         ·rw [if_neg c9] at H
          exact absurd H (by simp)
        ·rw [if_neg c8] at H
         exact absurd H (by simp)
       ·rw [if_neg c7] at H
        exact absurd H (by simp)
      ·rw [if_neg c6] at H
       exact absurd H (by simp)
     ·rw [if_neg c5] at H
      exact absurd H (by simp)
    ·rw [if_neg c4] at H
     exact absurd H (by simp)
   ·rw [if_neg c3] at H
    have c3b0 : decide (x5_1 < (l0.length : Int)) = false := decide_eq_false c3
    clear c3
    obtain rfl := Option.some.inj H
    go_wp2
    go_ret
    exact ⟨by first | rfl | (simp; done) | (simp [*]; done), DR⟩
end Go.Proofs.Ytlokjgngjgbpmaa.G

namespace Go.Proofs.Ytlokjgngjgbpmaa.G
open Go.RowKit Go.Proofs.YtlokjgngjgbpmaaW.PrintWords Go.Proofs.YtlokjgngjgbpmaaW.PrintLast Go.Proofs.YtlokjgngjgbpmaaW.PrintMore Go.Proofs.Ytlokjgngjgbpmaa.Sh
attribute [local go_sem] max2_int min2_int max_two min_two max_three min_three max_four min_four
set_option linter.unusedVariables false
set_option linter.unusedSimpArgs false
open Go.Proofs.Ytlokjgngjgbpmaa.Mm
def laws_FnExactLab.j0 : Nat → List ByteArray → Int → List (S33) → List (S33) → Bool → Option (Bool)
 | 0, _, _, _, _, _ => none
 | k + 1, x0, x1, x6, x8, x46 => if x46 = true then (none) else ((laws_markLabRowS.f k x8 1).bind fun bt1580 => ((laws_heldLabRowS.f k bt1580.2 1).bind fun t1582 => (if t1582 < 0 then (none) else (if t1582 = bt1580.1 then ((laws_toStringS.f k x0).bind fun t1583 => ((impl_Lab.f k t1583 x1).bind fun t1586 => ((laws_eqLabRowS.f k t1586 x6).bind fun t1589 => (if t1589 = true then ((laws_heldLabRowS.f k bt1580.2 1).bind fun t1590 => (if t1590 < 0 then (none) else (if t1590 = bt1580.1 then (some true) else (none)))) else (none))))) else (none)))))
def laws_FnExactLab.f (k : Nat) (l0 : List ByteArray) (a1 : Int) : Option (Bool) := (laws_szStringS.f k l0 1048576).bind fun t1559 => (if t1559 < 0 then (some true) else ((laws_toStringS.f k l0).bind fun t1560 => ((spec_Lab.f k t1560 a1).bind fun t1563 => ((laws_toStringS.f k l0).bind fun t1566 => ((impl_Lab.f k t1566 a1).bind fun t1569 => ((laws_eqLabRowS.f k t1569 t1563).bind fun t1572 => (if t1572 = true then ((laws_toStringS.f k l0).bind fun t1573 => ((laws_eqStringS.f k t1566 t1573).bind fun t1576 => (if t1576 = true then ((laws_markStringS.f k t1566 1).bind fun bt1577 => (if bt1577.1 < 0 then (laws_FnExactLab.j0 k l0 a1 t1563 t1569 true) else ((laws_eqLabRowS.f k t1569 t1563).bind fun t1579 => (laws_FnExactLab.j0 k l0 a1 t1563 t1569 (!t1579))))) else (none)))) else (none))))))))
set_option maxHeartbeats 8000000 in
set_option maxRecDepth 100000 in
theorem laws_FnExactLab.calls (k : Nat) (A0 : Option Addr) (c0 : Nat) (l0 : List ByteArray) (a1 : Int) (r : Bool) (w : World) (hr0 : Kd.C Kd.string w A0 l0.length l0) (hc0 : l0.length ≤ c0) (h : laws_FnExactLab.f k l0 a1 = some r) :
  Calls Try.prog 5 #[.slice A0 l0.length c0, .int .i64 a1] w fun e w' => e = .returned (.bool r) ∧ Below w.heap.size w w' := by
 have HR0 := Aside0.mk hr0
 have HC0 := Aside0.mk hc0
 clear hr0 hc0
 have HM := Mem.nil w
 have H := h
 clear h
 unfold laws_FnExactLab.f at H
 go_enter Try.func5, Try.ntmps5
 replace H := BN H; obtain ⟨t1559, A3, H⟩ := H
 go_upto_if 17 with (first | ((with_reducible refine gC 14 rfl ?_); refine pC (some 15) rfl #[.slice A0 l0.length c0, .int .i64 1048576] rfl Try.func14 (laws_szStringS.calls k _ _ l0 1048576 t1559 _ (HM.came HR0.out) HC0.out A3.out) ?_; rintro e w4 ⟨rfl, hd⟩; refine ⟨_, rfl, ?_⟩; replace HM := HM.drawn hd; clear hd))
 replace H := IT H; rcases H with ⟨c5, H⟩ | ⟨c5, H⟩
 ·have c5b0 := decide_eq_true c5
  clear c5
  first|rw [c5b0]|(simp only [i64_w, i32_w]; rw [c5b0])|skip
  obtain rfl := Option.some.inj H
  go_wp2
  go_ret
  exact ⟨ER, HM.bel⟩
 ·have c5b0 := decide_eq_false c5
  clear c5
  first|rw [c5b0]|(simp only [i64_w, i32_w]; rw [c5b0])|skip
  replace H := BN H; obtain ⟨t1560, A6, H⟩ := H
  replace H := BN H; obtain ⟨t1563, A8, H⟩ := H
  replace H := BN H; obtain ⟨t1566, A11, H⟩ := H
  replace H := BN H; obtain ⟨t1569, A13, H⟩ := H
  replace H := BN H; obtain ⟨t1572, A16, H⟩ := H
  replace H := GD H
  obtain ⟨c20, H⟩ := H
  subst c20
  replace H := BN H; obtain ⟨t1573, A21, H⟩ := H
  replace H := BN H; obtain ⟨t1576, A23, H⟩ := H
  replace H := GD H
  obtain ⟨c26, H⟩ := H
  subst c26
  replace H := BN H; obtain ⟨⟨t1577, t1578⟩, A27, H⟩ := H
  have HC29 := Aside0.mk H
  clear H
  go_upto_region 14 with (first | ((with_reducible refine gC 16 rfl ?_); refine pC (some 19) rfl #[.slice A0 l0.length c0] rfl Try.func16 (laws_toStringS.calls k _ _ l0 t1560 _ (HM.came HR0.out) HC0.out A6.out) ?_; rintro e w7 ⟨v1561, rfl, hR⟩; refine ⟨_, rfl, ?_⟩; replace HM := HM.call hR; clear hR; obtain ⟨Xo10, ko10, rfl⟩ := HM.rdR 0 rfl) | ((with_reducible refine gC 20 rfl ?_); refine pC (some 21) rfl #[.slice Xo10 t1560.length ko10, .int .i64 a1] rfl Try.func20 (spec_Lab.calls k _ _ t1560 a1 t1563 _ (HM.CR 0 rfl).2.2 (HM.CR 0 rfl).2.1 A8.out) ?_; rintro e w9 ⟨v1564, rfl, hR⟩; refine ⟨_, rfl, ?_⟩; replace HM := HM.call hR; clear hR) | ((with_reducible refine gC 16 rfl ?_); refine pC (some 23) rfl #[.slice A0 l0.length c0] rfl Try.func16 (laws_toStringS.calls k _ _ l0 t1566 _ (HM.came HR0.out) HC0.out A11.out) ?_; rintro e w12 ⟨v1567, rfl, hR⟩; refine ⟨_, rfl, ?_⟩; replace HM := HM.call hR; clear hR; obtain ⟨Xo15, ko15, rfl⟩ := HM.rdR 2 rfl) | ((with_reducible refine gC 8 rfl ?_); refine pC (some 26) rfl #[.slice Xo15 t1566.length ko15, .int .i64 a1] rfl Try.func8 (impl_Lab.calls k _ _ t1566 a1 t1569 _ (HM.CR 2 rfl).2.2 (HM.CR 2 rfl).2.1 A13.out) ?_; rintro e w14 ⟨v1570, rfl, hR⟩; refine ⟨_, rfl, ?_⟩; replace HM := HM.call hR; clear hR; obtain ⟨Xo18, ko18, rfl⟩ := HM.rdR 3 rfl; obtain ⟨Xo19, ko19, rfl⟩ := HM.rdR 1 rfl) | ((with_reducible refine gC 21 rfl ?_); refine pC (some 29) rfl #[.slice Xo18 t1569.length ko18, .slice Xo19 t1563.length ko19] rfl Try.func21 (laws_eqLabRowS.calls k _ _ t1569 _ _ t1563 true _ (HM.CR 3 rfl).2.2 (HM.CR 3 rfl).2.1 (HM.CR 1 rfl).2.2 (HM.CR 1 rfl).2.1 A16.out) ?_; rintro e w17 ⟨rfl, hR⟩; refine ⟨_, rfl, ?_⟩; replace HM := HM.call hR; clear hR) | ((with_reducible refine gC 16 rfl ?_); refine pC (some 33) rfl #[.slice A0 l0.length c0] rfl Try.func16 (laws_toStringS.calls k _ _ l0 t1573 _ (HM.came HR0.out) HC0.out A21.out) ?_; rintro e w22 ⟨v1574, rfl, hR⟩; refine ⟨_, rfl, ?_⟩; replace HM := HM.call hR; clear hR; obtain ⟨Xo25, ko25, rfl⟩ := HM.rdR 4 rfl) | ((with_reducible refine gC 17 rfl ?_); refine pC (some 34) rfl #[.slice Xo15 t1566.length ko15, .slice Xo25 t1573.length ko25] rfl Try.func17 (laws_eqStringS.calls k _ _ t1566 _ _ t1573 true _ (HM.CR 2 rfl).2.2 (HM.CR 2 rfl).2.1 (HM.CR 4 rfl).2.2 (HM.CR 4 rfl).2.1 A23.out) ?_; rintro e w24 ⟨rfl, hd⟩; refine ⟨_, rfl, ?_⟩; replace HM := HM.drawn hd; clear hd) | ((with_reducible refine gC 18 rfl ?_); refine pC (some 38) rfl #[.slice Xo15 t1566.length ko15, .int .i64 1] rfl Try.func18 (laws_markStringS.calls k (.slice Xo15 t1566.length ko15) t1566 1 t1577 t1578 _ _ _ (HM.focus [0, 1, 3, 4] [2]) A27.out) ?_; rintro e w28 ⟨rfl, hR⟩; refine ⟨_, rfl, ?_⟩; replace HM := nzM hR.unfocus; clear hR))
  replace HM := nzM HM
  go_cut [46] (fun v46 wc => ∃ (kq : Nat) (x46_28 : Bool), v46 = .bool x46_28 ∧ Aside0 (laws_FnExactLab.j0 kq l0 a1 t1563 t1569 x46_28 = some r) ∧ Aside0 (kq ≤ k) ∧ Mem w [] wc [rowR k33 33 (.slice Xo19 t1563.length ko19) t1563, rowR k33 33 (.slice Xo18 t1569.length ko18) t1569])
  case first =>
   have H := HC29.out
   clear HC29
   replace H := IT H; rcases H with ⟨c30, H⟩ | ⟨c30, H⟩
   ·have c30b0 : decide (t1577 < 0) = true := decide_eq_true c30
    clear c30
    have H' := Aside0.mk H
    clear H
    go_wp2
    go_meet
    case rel => exact ⟨_, (true), RS, H', ⟨by first | omega | exact Nat.le_refl _⟩, (MD HM).pick [1, 2]⟩
   ·have c30b0 : decide (t1577 < 0) = false := decide_eq_false c30
    clear c30
    replace H := BN H; obtain ⟨t1579, A31, H⟩ := H
    have H' := Aside0.mk H
    clear H
    go_wp2_with (first | ((with_reducible refine gC 21 rfl ?_); refine pC (some 44) rfl #[.slice Xo18 t1569.length ko18, .slice Xo19 t1563.length ko19] rfl Try.func21 (laws_eqLabRowS.calls k _ _ t1569 _ _ t1563 t1579 _ (HM.CR 2 rfl).2.2 (HM.CR 2 rfl).2.1 (HM.CR 1 rfl).2.2 (HM.CR 1 rfl).2.1 A31.out) ?_; rintro e w32 ⟨rfl, hR⟩; refine ⟨_, rfl, ?_⟩; replace HM := HM.call hR; clear hR))
    go_meet
    case rel => exact ⟨_, (!t1579), RS, H', ⟨by first | omega | exact Nat.le_refl _⟩, (MD HM).pick [1, 2]⟩
  case rest =>
   clear HC29 HM
   obtain ⟨kq, x46_28, rfl, HA, HJ28, HM⟩ := hcut
   cases kq with
   | zero => exact absurd HA.out (by simp [laws_FnExactLab.j0])
   | succ kj28 =>
    have H := HA.out
    clear HA
    simp only [laws_FnExactLab.j0] at H
    replace H := GN H
    obtain ⟨c33, H⟩ := H
    replace c33 := Bool.eq_false_iff.mpr c33
    subst c33
    replace H := BN H; obtain ⟨⟨t1580, t1581⟩, A34, H⟩ := H
    replace H := BN H; obtain ⟨t1582, A36, H⟩ := H
    replace H := GN H; obtain ⟨c38, H⟩ := H
    have c38b0 : decide (t1582 < 0) = false := decide_eq_false c38
    clear c38
    replace H := GD H; obtain ⟨c39, H⟩ := H
    have c39b0 : (t1582 == t1580) = true := beq_iff_eq.mpr c39
    have c39b1 : (t1582 != t1580) = false := bne_eq_false_iff_eq.mpr c39
    clear c39
    replace H := BN H; obtain ⟨t1583, A40, H⟩ := H
    replace H := BN H; obtain ⟨t1586, A42, H⟩ := H
    replace H := BN H; obtain ⟨t1589, A45, H⟩ := H
    replace H := GD H
    obtain ⟨c48, H⟩ := H
    subst c48
    replace H := BN H; obtain ⟨t1590, A49, H⟩ := H
    replace H := GN H; obtain ⟨c51, H⟩ := H
    have c51b0 : decide (t1590 < 0) = false := decide_eq_false c51
    clear c51
    replace H := GD H; obtain ⟨c52, H⟩ := H
    have c52b0 : (t1590 == t1580) = true := beq_iff_eq.mpr c52
    have c52b1 : (t1590 != t1580) = false := bne_eq_false_iff_eq.mpr c52
    clear c52
    obtain rfl := Option.some.inj H
    go_wp2_with (first | ((with_reducible refine gC 22 rfl ?_); refine pC (some 49) rfl #[.slice Xo18 t1569.length ko18, .int .i64 1] rfl Try.func22 (laws_markLabRowS.calls kj28 (.slice Xo18 t1569.length ko18) t1569 1 t1580 t1581 _ _ _ (HM.focus [0] [1]) A34.out) ?_; rintro e w35 ⟨rfl, hR⟩; refine ⟨_, rfl, ?_⟩; replace HM := nzM hR.unfocus; clear hR) | ((with_reducible refine gC 23 rfl ?_); refine pC (some 52) rfl #[.slice Xo18 t1581.length ko18, .int .i64 1] rfl Try.func23 (laws_heldLabRowS.calls kj28 _ _ t1581 1 t1582 _ (HM.CR 1 rfl).2.2 (by rw [← (HM.CR 1 rfl).1]; exact (HM.CR 1 rfl).2.1) A36.out) ?_ (hargs := by (try simp only [List.map_toArray, List.map_cons, List.map_nil]); show (#[.slice Xo18 t1569.length ko18, .int .i64 1] : Array Value) = _; rw [(HM.CR 1 rfl).1]); rintro e w37 ⟨rfl, hd⟩; refine ⟨_, rfl, ?_⟩; replace HM := HM.drawn hd; clear hd) | ((with_reducible refine gC 16 rfl ?_); refine pC (some 59) rfl #[.slice A0 l0.length c0] rfl Try.func16 (laws_toStringS.calls kj28 _ _ l0 t1583 _ (HM.came HR0.out) HC0.out A40.out) ?_; rintro e w41 ⟨v1584, rfl, hR⟩; refine ⟨_, rfl, ?_⟩; replace HM := HM.call hR; clear hR; obtain ⟨Xo44, ko44, rfl⟩ := HM.rdR 2 rfl) | ((with_reducible refine gC 8 rfl ?_); refine pC (some 61) rfl #[.slice Xo44 t1583.length ko44, .int .i64 a1] rfl Try.func8 (impl_Lab.calls kj28 _ _ t1583 a1 t1586 _ (HM.CR 2 rfl).2.2 (HM.CR 2 rfl).2.1 A42.out) ?_; rintro e w43 ⟨v1587, rfl, hR⟩; refine ⟨_, rfl, ?_⟩; replace HM := HM.call hR; clear hR; obtain ⟨Xo47, ko47, rfl⟩ := HM.rdR 3 rfl) | ((with_reducible refine gC 21 rfl ?_); refine pC (some 64) rfl #[.slice Xo47 t1586.length ko47, .slice Xo19 t1563.length ko19] rfl Try.func21 (laws_eqLabRowS.calls kj28 _ _ t1586 _ _ t1563 true _ (HM.CR 3 rfl).2.2 (HM.CR 3 rfl).2.1 (HM.CR 0 rfl).2.2 (HM.CR 0 rfl).2.1 A45.out) ?_; rintro e w46 ⟨rfl, hR⟩; refine ⟨_, rfl, ?_⟩; replace HM := HM.call hR; clear hR) | ((with_reducible refine gC 23 rfl ?_); refine pC (some 68) rfl #[.slice Xo18 t1581.length ko18, .int .i64 1] rfl Try.func23 (laws_heldLabRowS.calls kj28 _ _ t1581 1 t1590 _ (HM.CR 1 rfl).2.2 (by rw [← (HM.CR 1 rfl).1]; exact (HM.CR 1 rfl).2.1) A49.out) ?_ (hargs := by (try simp only [List.map_toArray, List.map_cons, List.map_nil]); show (#[.slice Xo18 t1569.length ko18, .int .i64 1] : Array Value) = _; rw [(HM.CR 1 rfl).1]); rintro e w50 ⟨rfl, hd⟩; refine ⟨_, rfl, ?_⟩; replace HM := HM.drawn hd; clear hd))
    go_ret
    exact ⟨ER, HM.bel⟩
end Go.Proofs.Ytlokjgngjgbpmaa.G
