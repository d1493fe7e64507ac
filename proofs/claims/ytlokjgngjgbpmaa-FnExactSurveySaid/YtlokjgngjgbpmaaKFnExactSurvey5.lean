/- Part 5 of the claim FnExactSurvey, merged by pack.py (this session's program) out of: the print's words, cut to what is needed; texts that gen.py printed (it runs the kit's print in place); texts of this session. -/
import Derived.Deep.RegionLaw
import Derived.RegionTactic
import Derived.Test.YtlokjgngjgbpmaaKFnExactSurvey1
import Derived.Test.YtlokjgngjgbpmaaKFnExactSurvey3
import Derived.Test.YtlokjgngjgbpmaaKFnExactSurvey4
namespace Go.Proofs.Ytlokjgngjgbpmaa.Man
end Go.Proofs.Ytlokjgngjgbpmaa.Man
namespace Go.Proofs.Ytlokjgngjgbpmaa.Mm
end Go.Proofs.Ytlokjgngjgbpmaa.Mm
namespace Go.Proofs.Ytlokjgngjgbpmaa.Sh
end Go.Proofs.Ytlokjgngjgbpmaa.Sh
set_option maxHeartbeats 8000000
set_option maxRecDepth 100000
namespace Go.Proofs.Ytlokjgngjgbpmaa.G
open Go.RowKit Go.Proofs.YtlokjgngjgbpmaaW.PrintWords Go.Proofs.YtlokjgngjgbpmaaW.PrintLast Go.Proofs.YtlokjgngjgbpmaaW.PrintMore Go.Proofs.Ytlokjgngjgbpmaa.Sh
attribute [local go_sem] max2_int min2_int max_two min_two max_three min_three max_four min_four
set_option linter.unusedVariables false
set_option linter.unusedSimpArgs false
open Go.Proofs.Ytlokjgngjgbpmaa.Mm
def impl_Three_evictMain.l0 : Nat → Int → Int → List (S67) → List (S67) → List Int → Option (Int × Int × (List (S67)) × (List (S67)) × List Int × ByteArray × Bool)
 | 0, _, _, _, _, _ => none
 | k + 1, x328000, x328001, x328002, x328003, x328004 => if (x328003.length : Int) > 0 then (if 0 < (x328003.length : Int) then (if 1 ≤ (x328003.length : Int) then ((some (x328003.drop (1 : Int).toNat : List (S67))).bind fun y330 => (if ((rd_T67 x328003 0).f2) = 0 then (some (x328000, x328001, x328002, y330, x328004, (rd_T67 x328003 0).f0, true)) else (if y330.length < 3518437208883 then (impl_Three_evictMain.l0 k x328000 x328001 x328002 (y330 ++ [(⟨(rd_T67 x328003 0).f0, (rd_T67 x328003 0).f1, wrap64 (((rd_T67 x328003 0).f2) - 1)⟩ : S67)]) x328004) else (none)))) else (none)) else (none)) else (some (x328000, x328001, x328002, x328003, x328004, (⟨#[]⟩ : ByteArray), false))
def impl_Three_evictMain.f (k : Nat) (a0_0 : Int) (a0_1 : Int) (l0_2 : List (S67)) (l0_3 : List (S67)) (l0_4 : List Int) : Option (Int × Int × (List (S67)) × (List (S67)) × List Int × ByteArray × Bool) := impl_Three_evictMain.l0 k a0_0 a0_1 l0_2 l0_3 l0_4
def impl_Three_evictMain.T7 : Bool × List (List Nat × List Nat) := (true, [([], []), ([], []), ([1], [1]), ([2], [2]), ([3], [3]), ([], []), ([5], [5]), ([4, 6], [4, 6]), ([0, 0, 1, 2, 3, 4, 5, 6, 7], [0]), ([8, 0, 1, 2, 3, 4, 5, 6, 7], [8]), ([9, 7, 7, 0, 1, 2, 3, 4, 5, 6, 7], [7, 9])])
def impl_Three_evictMain.B7 : List Nat := [0, 0, 2, 6, 14, 0, 32, 126, 255, 511, 1023]
theorem impl_Three_evictMain.tab7 : rtab .any (opsOf Try.f99 7) = impl_Three_evictMain.T7 := by kernel_rfl
theorem impl_Three_evictMain.bits7 : waitsOk impl_Three_evictMain.T7.2 impl_Three_evictMain.B7 = true := by kernel_rfl
theorem impl_Three_evictMain.calls (k : Nat) (g : Nat) (a0_0 : Int) (a0_1 : Int) (u9000_ : Value) (l0_2 : List (S67)) (u9001_ : Value) (l0_3 : List (S67)) (u9002_ : Value) (l0_4 : List Int) (r1 : Int) (r2 : Int) (r3 : List (S67)) (r4 : List (S67)) (r5 : List Int) (r6 : ByteArray) (r7 : Bool) (w0 w : World) (F : List SP)  (hM : Mem w0 F w [row k67 67 u9000_ l0_2, row k67 67 u9001_ l0_3, row (Kd.int .i64) 3 u9002_ l0_4, box 71 g [.int .i64 a0_0, .int .i64 a0_1, u9000_, u9001_, u9002_]]) (h : impl_Three_evictMain.f k a0_0 a0_1 l0_2 l0_3 l0_4 = some (r1, r2, r3, r4, r5, r6, r7)) :
  Calls Try.prog 99 #[.pointer (some ⟨g, 0, none⟩)] w fun e w' => ∃ v2_ v3_ v4_ : Value, e = .returned (.tuple #[.string r6, .bool r7]) ∧ Mem w0 F w' [row k67 67 v2_ r3, row k67 67 v3_ r4, row (Kd.int .i64) 3 v4_ r5, box 71 g [.int .i64 r1, .int .i64 r2, v2_, v3_, v4_]] := by
 have hu67 := Try.underlying67
 have HM := hM
 clear hM
 have H := h
 clear h
 unfold impl_Three_evictMain.f at H
 go_enter Try.func99, Try.ntmps99
 have H' := Aside0.mk H
 clear H
 go_wp2
 go_loopg [] k (fun kq w' => ∃ (x328003_1 : List (S67)) (u328003 : Value), Aside0 (impl_Three_evictMain.l0 kq a0_0 a0_1 l0_2 x328003_1 l0_4 = some (r1, r2, r3, r4, r5, r6, r7)) ∧ Aside0 (kq ≤ k) ∧ Mem w0 F w' [row k67 67 u9000_ l0_2, row k67 67 u328003 x328003_1, row (Kd.int .i64) 3 u9002_ l0_4, box 71 g [.int .i64 a0_0, .int .i64 a0_1, u9000_, u328003, u9002_]])
 case atStart => exact ⟨(l0_3), (u9001_), H', ⟨Nat.le_refl _⟩, (MD HM).pick [0, 1, 2, 3]⟩
 case round =>
  clear H' HM
  obtain ⟨x328003_1, u328003, HA, HK1, HM⟩ := hrel
  cases gk with
  | zero => exact absurd HA.out (by simp [impl_Three_evictMain.l0])
  | succ k1 =>
   have H := HA.out
   clear HA
   simp only [impl_Three_evictMain.l0] at H
   obtain ⟨_,_,_,_,_,_,_,_,_,_⟩ := bk5 (HM.bx 3 rfl)
   obtain ⟨Xo3, ko3, rfl⟩ := HM.rd 1 rfl
   go_upto_if 10 with (fail)
   replace H := IT H; rcases H with ⟨c4, H⟩ | ⟨c4, H⟩
   ·replace c4 : (x328003_1.length : Int) > 0 := c4
    have c4b0 : decide (0 < (x328003_1.length : Int)) = true := decide_eq_true c4
    have c4b1 : decide (0 < x328003_1.length) = true := decide_eq_true (by omega)
    have c4b9 : decide (0 < x328003_1.length) = true := decide_eq_true (by omega)
    clear c4
    first|rw [c4b0]|rw [c4b9]|(simp only [i64_w, i32_w]; rw [c4b0])|skip
    replace H := GD H; obtain ⟨c5, H⟩ := H
    replace c5 : 0 < (x328003_1.length : Int) := c5
    have c5b0 := decide_eq_true c5
    have c5b1 : decide (0 < x328003_1.length) = true := decide_eq_true (by omega)
    have c5b9 : decide (0 < x328003_1.length) = true := decide_eq_true (by omega)
    clear c5
    replace H := GD H; obtain ⟨c9, H⟩ := H
    have c9b0 := eq_true c9
    have c9b1 : decide (1 ≤ (x328003_1.length : Int)) = true := decide_eq_true c9
    clear c9
    replace H := BLt H; obtain ⟨y330, Ny330, H⟩ := H
    replace Ny330 := Aside0.mk Ny330
    have p328 : 0 ≤ (0 : Int) := (by omega)
    have q328 : (0 : Int) < (x328003_1.length : Int) := of_decide_eq_true AS
    obtain ⟨ad328, e328, hx328_0, hx328_1, hx328_2⟩ := at_T67 (HM.C 1 rfl).2.2 0 p328 q328
    cases e328
    have qi328 : (0 < x328003_1.length) = True := eq_true (by omega)
    (try rw [show ((0 : Int)).toNat = 0 from rfl] at hx328_0)
    (try rw [show 0 * 3 = 0 from rfl] at hx328_0)
    (try rw [Addr.add_zero'] at hx328_0)
    (try rw [show ((0 : Int)).toNat = 0 from rfl] at hx328_1)
    (try rw [show 0 * 3 = 0 from rfl] at hx328_1)
    (try rw [Addr.add_zero'] at hx328_1)
    (try rw [show ((0 : Int)).toNat = 0 from rfl] at hx328_2)
    (try rw [show 0 * 3 = 0 from rfl] at hx328_2)
    (try rw [Addr.add_zero'] at hx328_2)
    replace p328 := eq_true p328
    replace q328 := eq_true q328
    go_upto_if 27 with (first | ((with_reducible refine gN 4 rfl ?_); refine pB 4 67 [.string (⟨#[]⟩ : ByteArray), .string (⟨#[]⟩ : ByteArray), .int .i64 0] HM rfl ?_; clear HM; intro gb329 w6 HM) | ((with_reducible refine gS 4 rfl ?_); refine pS 4 4 0 [.string ((rd_T67 x328003_1 0).f0), .string ((rd_T67 x328003_1 0).f1), .int .i64 ((rd_T67 x328003_1 0).f2)] HM rfl rfl ?_; clear HM; intro w7 HM; obtain ⟨_,_,_,_,_,_,_,_,_,_⟩ := bk5 (HM.bx 3 rfl)) | ((with_reducible refine gate_sl (t := 68) rfl ?_); refine pD 1 68 67 k67 _ _ 1 x328003_1 (some ad328) ko3 HM rfl Try.underlying68 info67 rfl (fun _ _ h => h) (by omega) (by have h_ : (1 : Int) ≤ ((x328003_1.length : Int) : Int) := of_decide_eq_true AS; first | exact h_ | (have e_ := (HM.C 1 rfl).1; omega)) ?_; clear HM; intro v331 HM; replace HM := HM.nmQ 1 rfl Ny330.out; obtain ⟨Xo10, ko10, rfl⟩ := HM.rd 1 rfl) | ((with_reducible refine gS 24 rfl ?_); refine pS 3 24 3 [.slice Xo10 y330.length ko10] HM rfl rfl ?_; clear HM; intro w11 HM; obtain ⟨_,_,_,_,_,_⟩ := bk3 (HM.bx 4 rfl)))
    replace HM := nzM HM
    replace H := IT H; rcases H with ⟨c13, H⟩ | ⟨c13, H⟩
    ·obtain ⟨c13b0, c13b1⟩ := BE c13
     clear c13
     first|rw [c13b0]|(simp only [i64_w, i32_w]; rw [c13b0])|skip
     simp only [Option.some.injEq, Prod.mk.injEq] at H
     obtain ⟨rfl, rfl, rfl, rfl, rfl, rfl, rfl⟩ := H
     go_wp2
     go_ret2
     first | exact ⟨_, _, _, ER, (MD HM).pick [0, 1, 2, 3]⟩ | exact ⟨ER, _, _, _, (MD HM).pick [0, 1, 2, 3]⟩
    ·obtain ⟨c13b0, c13b1⟩ := BF c13
     first|rw [c13b0]|(simp only [i64_w, i32_w]; rw [c13b0])|skip
     try go_wp2_with (first | ((with_reducible refine gS 33 rfl ?_); refine pS 4 33 2 [.int .i64 (wrap64 (((rd_T67 x328003_1 0).f2) - 1))] HM rfl rfl ?_; clear HM; intro w14 HM))
     replace H := GD H; obtain ⟨c15, H⟩ := H
     have LMc15 := Aside0.mk c15
     clear c15
     refine RGN 11 [0, 1, 2, 3, 4, 5, 6, 7, 8, 9, 10] (fun a0 b a w' => ∃ (v19 : Value) (v334 : Value), a = putSel a0 b [(0, 34, .pointer (some ⟨g, 0, none⟩)), (1, 35, .pointer (some ⟨g, 0, none⟩)), (2, 36, .pointer (some ⟨g, 0, none⟩)), (3, 37, .pointer (some ⟨g, 3, none⟩)), (4, 38, .slice Xo10 y330.length ko10), (5, 39, .agg #[.string ((rd_T67 x328003_1 0).f0), .string ((rd_T67 x328003_1 0).f1), .int .i64 (wrap64 (((rd_T67 x328003_1 0).f2) - 1))]), (6, 40, v19), (7, 41, v334), (8, 42, .pointer (some ⟨g, 0, none⟩)), (9, 43, .pointer (some ⟨g, 3, none⟩))] ∧ Mem w0 F w' [row k67 67 u9000_ l0_2, sel (b 7) (row k67 67 v334 (y330 ++ [(⟨(rd_T67 x328003_1 0).f0, (rd_T67 x328003_1 0).f1, wrap64 (((rd_T67 x328003_1 0).f2) - 1)⟩ : S67)])) (row k67 67 (.slice Xo10 y330.length ko10) y330), row (Kd.int .i64) 3 u9002_ l0_4, sel (b 10) (box 71 g [.int .i64 a0_0, .int .i64 a0_1, u9000_, v334, u9002_]) (box 71 g [.int .i64 a0_0, .int .i64 a0_1, u9000_, .slice Xo10 y330.length ko10, u9002_]), box 67 gb329 [.string ((rd_T67 x328003_1 0).f0), .string ((rd_T67 x328003_1 0).f1), .int .i64 (wrap64 (((rd_T67 x328003_1 0).f2) - 1))], sel (b 6) (rowR k67 67 v19 [(⟨(rd_T67 x328003_1 0).f0, (rd_T67 x328003_1 0).f1, wrap64 (((rd_T67 x328003_1 0).f2) - 1)⟩ : S67)]) (emp)]) impl_Three_evictMain.tab7 impl_Three_evictMain.bits7 ?_ ?_ ?_
     ·exact ⟨.bool false, .bool false, PS0' rfl _, (HM.drew.ems 1).pick [0, 1, 2, 3, 4, 5]⟩
     ·clear HM
      refine SZ ?_ ?_
      ·rintro b a w ⟨v19, v334, ha, HM⟩ hb hon hoff K hK
       replace ha := Aside0.mk ha
       have e0 := PG ha 0
       exact VL (.pointer (some ⟨g, 0, none⟩)) (hK.out _ _ ⟨v19, v334, PUT ha 0 hb, HM⟩)
      refine SZ ?_ ?_
      ·rintro b a w ⟨v19, v334, ha, HM⟩ hb hon hoff K hK
       replace ha := Aside0.mk ha
       have e0 := PG ha 0
       exact VL (.pointer (some ⟨g, 0, none⟩)) (hK.out _ _ ⟨v19, v334, PUT ha 1 hb, HM⟩)
      refine SZ ?_ ?_
      ·rintro b a w ⟨v19, v334, ha, HM⟩ hb hon hoff K hK
       replace ha := Aside0.mk ha
       have e35 := PE ha 1 hon
       exact VL (.pointer (some ⟨g, 0, none⟩)) (hK.out _ _ ⟨v19, v334, PUT ha 2 hb, HM⟩)
      refine SZ ?_ ?_
      ·rintro b a w ⟨v19, v334, ha, HM⟩ hb hon hoff K hK
       replace ha := Aside0.mk ha
       have e36 := PE ha 2 hon
       exact VL (.pointer (some ⟨g, 3, none⟩)) (hK.out _ _ ⟨v19, v334, PUT ha 3 hb, HM⟩)
      refine SZ ?_ ?_
      ·rintro b a w ⟨v19, v334, ha, HM⟩ hb hon hoff K hK
       replace ha := Aside0.mk ha
       have HZ := HM
       replace HM := HM.sF 3 rfl (hoff 10 rfl)
       obtain ⟨_,_,_,_,_,_,_,_,_,_⟩ := bk5 (HM.bx 3 rfl)
       have e37 := PE ha 3 hon
       exact VL (.slice Xo10 y330.length ko10) (hK.out _ _ ⟨v19, v334, PUT ha 4 hb, HZ⟩)
      refine SZ ?_ ?_
      ·rintro b a w ⟨v19, v334, ha, HM⟩ hb hon hoff K hK
       replace ha := Aside0.mk ha
       obtain ⟨_,_,_,_,_,_⟩ := bk3 (HM.bx 4 rfl)
       have e4 := PG ha 4
       exact VL (.agg #[.string ((rd_T67 x328003_1 0).f0), .string ((rd_T67 x328003_1 0).f1), .int .i64 (wrap64 (((rd_T67 x328003_1 0).f2) - 1))]) (hK.out _ _ ⟨v19, v334, PUT ha 5 hb, HM⟩)
      refine SZ ?_ ?_
      ·rintro b a w ⟨v19, v334, ha, HM⟩ hb hon hoff K hK
       replace ha := Aside0.mk ha
       have e39 := PE ha 5 hon
       refine ST (eL 40 k67 67 [(⟨(rd_T67 x328003_1 0).f0, (rd_T67 x328003_1 0).f1, wrap64 (((rd_T67 x328003_1 0).f2) - 1)⟩ : S67)] [.string ((rd_T67 x328003_1 0).f0), .string ((rd_T67 x328003_1 0).f1), .int .i64 (wrap64 (((rd_T67 x328003_1 0).f2) - 1))] (Reps.c3 (show Kd.M k67 _ _ _ (⟨(rd_T67 x328003_1 0).f0, (rd_T67 x328003_1 0).f1, wrap64 (((rd_T67 x328003_1 0).f2) - 1)⟩ : S67) [.string ((rd_T67 x328003_1 0).f0), .string ((rd_T67 x328003_1 0).f1), .int .i64 (wrap64 (((rd_T67 x328003_1 0).f2) - 1))] from (k67_mkM _ _ _ (⟨(rd_T67 x328003_1 0).f0, (rd_T67 x328003_1 0).f1, wrap64 (((rd_T67 x328003_1 0).f2) - 1)⟩ : S67))) (Reps.none _ _)) HM rfl ?_)
       clear HM
       intro v19 w26 HM
       exact hK.out _ _ ⟨v19, v334, PUT ha 6 hb, (HM).pick [0, 1, 2, 3, 4, 6]⟩
      refine SZ ?_ ?_
      ·rintro b a w ⟨v19, v334, ha, HM⟩ hb hon hoff K hK
       replace ha := Aside0.mk ha
       replace HM := HM.sF 1 rfl hb
       replace HM := HM.sT 5 rfl (hon 6 rfl)
       obtain ⟨Xo27, ko27, rfl⟩ := HM.rdR 5 rfl
       have e38 := PE ha 4 hon
       have e40 := PE ha 6 hon
       refine ST (eAq 1 (.tmp 38) (.tmp 40) 68 67 k67 (.slice Xo10 y330.length ko10) y330 [(⟨(rd_T67 x328003_1 0).f0, (rd_T67 x328003_1 0).f1, wrap64 (((rd_T67 x328003_1 0).f2) - 1)⟩ : S67)] Xo27 ([(⟨(rd_T67 x328003_1 0).f0, (rd_T67 x328003_1 0).f1, wrap64 (((rd_T67 x328003_1 0).f2) - 1)⟩ : S67)].length) ko27 HM rfl Try.underlying68 info67 rfl (HM.CR 5 rfl).2.2 (by have h_ := LMc15.out; simp only [List.length_singleton]; omega) (by simp) ?_ (ops := #[]) (hw := by rfl) (hs := (eval_of e38)) (hx := (eval_of e40)))
       clear HM
       intro v334 w28 HM
       exact hK.out _ _ ⟨.slice Xo27 [(⟨(rd_T67 x328003_1 0).f0, (rd_T67 x328003_1 0).f1, wrap64 (((rd_T67 x328003_1 0).f2) - 1)⟩ : S67)].length ko27, v334, PUT ha 7 hb, (((HM.sF 3 rfl (hoff 10 rfl)).iF 3 rfl (hoff 10 rfl)).iT 5 rfl (hon 6 rfl)).pick [0, 1, 2, 3, 4, 5]⟩
      refine SZ ?_ ?_
      ·rintro b a w ⟨v19, v334, ha, HM⟩ hb hon hoff K hK
       replace ha := Aside0.mk ha
       have e34 := PE ha 0 hon
       exact VL (.pointer (some ⟨g, 0, none⟩)) (hK.out _ _ ⟨v19, v334, PUT ha 8 hb, HM⟩)
      refine SZ ?_ ?_
      ·rintro b a w ⟨v19, v334, ha, HM⟩ hb hon hoff K hK
       replace ha := Aside0.mk ha
       have e42 := PE ha 8 hon
       exact VL (.pointer (some ⟨g, 3, none⟩)) (hK.out _ _ ⟨v19, v334, PUT ha 9 hb, HM⟩)
      refine SZ ?_ ?_
      ·rintro b a w ⟨v19, v334, ha, HM⟩ hb hon hoff K hK
       replace ha := Aside0.mk ha
       replace HM := HM.sT 1 rfl (hon 7 rfl)
       replace HM := HM.sF 3 rfl hb
       obtain ⟨Xo29, ko29, rfl⟩ := HM.rd 1 rfl
       have e43 := PE ha 9 hon
       have e41 := PE ha 7 hon
       refine ST (eS 3 43 3 [.slice Xo29 (y330 ++ [(⟨(rd_T67 x328003_1 0).f0, (rd_T67 x328003_1 0).f1, wrap64 (((rd_T67 x328003_1 0).f2) - 1)⟩ : S67)]).length ko29] HM rfl rfl ?_ (hp := (eval_of e43)) (hx := (by rw [eval_of e41]; rfl)))
       clear HM
       intro w30 HM
       exact hK.out _ _ ⟨v19, .slice Xo29 (y330 ++ [(⟨(rd_T67 x328003_1 0).f0, (rd_T67 x328003_1 0).f1, wrap64 (((rd_T67 x328003_1 0).f2) - 1)⟩ : S67)]).length ko29, PUS ha, (HM.iT 1 rfl (hon 7 rfl)).pick [0, 1, 2, 3, 4, 5]⟩
      exact steps_nil
     rintro _ w31 ⟨v19, v334, rfl, HM⟩
     replace HM := HM.sT 1 rfl rfl
     replace HM := HM.sT 3 rfl rfl
     replace HM := HM.sT 5 rfl rfl
     simp only [putSel, if_true, Act.put, List.setIfInBounds_toArray, List.set_cons_zero, List.set_cons_succ, gt_iff_lt, ge_iff_le]
     have H' := Aside0.mk H
     clear H
     go_wp2
     go_roundg k1
     case measure => have := HK1.out; omega
     case rel => exact ⟨((y330 ++ [(⟨(rd_T67 x328003_1 0).f0, (rd_T67 x328003_1 0).f1, wrap64 (((rd_T67 x328003_1 0).f2) - 1)⟩ : S67)])), (v334), H', ⟨by have := HK1.out; omega⟩, (MD HM).pick [0, 1, 2, 3]⟩
   ·replace c4 : ¬ ((x328003_1.length : Int) > 0) := c4
    have c4b0 : decide (0 < (x328003_1.length : Int)) = false := decide_eq_false c4
    have c4b1 : decide (0 < x328003_1.length) = false := decide_eq_false (by omega)
    have c4b9 : decide (0 < x328003_1.length) = false := decide_eq_false (by omega)
    clear c4
    first|rw [c4b0]|rw [c4b9]|(simp only [i64_w, i32_w]; rw [c4b0])|skip
    simp only [Option.some.injEq, Prod.mk.injEq] at H
    obtain ⟨rfl, rfl, rfl, rfl, rfl, rfl, rfl⟩ := H
    go_wp2
    go_ret2
    first | exact ⟨_, _, _, ER, (MD HM).pick [0, 1, 2, 3]⟩ | exact ⟨ER, _, _, _, (MD HM).pick [0, 1, 2, 3]⟩
def impl_Three_evict.j0 : Nat → Bool → Int → Int → List (S67) → List (S67) → List Int → Option (Int × Int × (List (S67)) × (List (S67)) × List Int × ByteArray × Bool)
 | 0, _, _, _, _, _, _ => none
 | k + 1, x23, x337000, x337001, x337002, x337003, x337004 => if x23 = true then ((impl_Three_evictSmall.f k x337000 x337001 x337002 x337003 x337004).bind fun bt337 => (if bt337.2.2.2.2.2.2 = true then (some (bt337.1, bt337.2.1, bt337.2.2.1, bt337.2.2.2.1, bt337.2.2.2.2.1, bt337.2.2.2.2.2.1, true)) else ((impl_Three_evictMain.f k bt337.1 bt337.2.1 bt337.2.2.1 bt337.2.2.2.1 bt337.2.2.2.2.1).bind fun bt350 => (some (bt350.1, bt350.2.1, bt350.2.2.1, bt350.2.2.2.1, bt350.2.2.2.2.1, bt350.2.2.2.2.2.1, bt350.2.2.2.2.2.2))))) else ((impl_Three_evictMain.f k x337000 x337001 x337002 x337003 x337004).bind fun bt363 => (some (bt363.1, bt363.2.1, bt363.2.2.1, bt363.2.2.2.1, bt363.2.2.2.2.1, bt363.2.2.2.2.2.1, bt363.2.2.2.2.2.2)))
def impl_Three_evict.f (k : Nat) (a0_0 : Int) (a0_1 : Int) (l0_2 : List (S67)) (l0_3 : List (S67)) (l0_4 : List Int) : Option (Int × Int × (List (S67)) × (List (S67)) × List Int × ByteArray × Bool) := if (l0_2.length : Int) ≥ a0_1 then (impl_Three_evict.j0 k true a0_0 a0_1 l0_2 l0_3 l0_4) else (impl_Three_evict.j0 k ((l0_3.length : Int) == 0) a0_0 a0_1 l0_2 l0_3 l0_4)
theorem impl_Three_evict.calls (k : Nat) (g : Nat) (a0_0 : Int) (a0_1 : Int) (u9000_ : Value) (l0_2 : List (S67)) (u9001_ : Value) (l0_3 : List (S67)) (u9002_ : Value) (l0_4 : List Int) (r1 : Int) (r2 : Int) (r3 : List (S67)) (r4 : List (S67)) (r5 : List Int) (r6 : ByteArray) (r7 : Bool) (w0 w : World) (F : List SP)  (hM : Mem w0 F w [row k67 67 u9000_ l0_2, row k67 67 u9001_ l0_3, row (Kd.int .i64) 3 u9002_ l0_4, box 71 g [.int .i64 a0_0, .int .i64 a0_1, u9000_, u9001_, u9002_]]) (h : impl_Three_evict.f k a0_0 a0_1 l0_2 l0_3 l0_4 = some (r1, r2, r3, r4, r5, r6, r7)) :
  Calls Try.prog 81 #[.pointer (some ⟨g, 0, none⟩)] w fun e w' => ∃ v2_ v3_ v4_ : Value, e = .returned (.tuple #[.string r6, .bool r7]) ∧ Mem w0 F w' [row k67 67 v2_ r3, row k67 67 v3_ r4, row (Kd.int .i64) 3 v4_ r5, box 71 g [.int .i64 r1, .int .i64 r2, v2_, v3_, v4_]] := by
 have HM := hM
 clear hM
 have H := h
 clear h
 unfold impl_Three_evict.f at H
 go_enter Try.func81, Try.ntmps81
 have HC2 := Aside0.mk H
 clear H
 go_upto_region 1 with (fail)
 repeat (go_quiet (fail); go_upto_region 1 with (fail))
 go_cut [23] (fun v23 wc => ∃ (kq : Nat) (x23_1 : Bool), v23 = .bool x23_1 ∧ Aside0 (impl_Three_evict.j0 kq x23_1 a0_0 a0_1 l0_2 l0_3 l0_4 = some (r1, r2, r3, r4, r5, r6, r7)) ∧ Aside0 (kq ≤ k) ∧ Mem w0 F wc [row k67 67 u9000_ l0_2, row k67 67 u9001_ l0_3, row (Kd.int .i64) 3 u9002_ l0_4, box 71 g [.int .i64 a0_0, .int .i64 a0_1, u9000_, u9001_, u9002_]])
 case first =>
  have H := HC2.out
  clear HC2
  replace H := IT H; rcases H with ⟨c5, H⟩ | ⟨c5, H⟩
  ·have c5b0 : decide (a0_1 ≤ (l0_2.length : Int)) = true := decide_eq_true c5
   clear c5
   have H' := Aside0.mk H
   clear H
   obtain ⟨_,_,_,_,_,_,_,_,_,_⟩ := bk5 (HM.bx 3 rfl)
   obtain ⟨Xo4, ko4, rfl⟩ := HM.rd 0 rfl
   go_wp2
   repeat (go_quiet (fail); try go_wp2_with (fail))
   go_meet
   case rel => exact ⟨_, (true), RS, H', ⟨by first | omega | exact Nat.le_refl _⟩, (MD HM).pick [0, 1, 2, 3]⟩
  ·have c5b0 : decide (a0_1 ≤ (l0_2.length : Int)) = false := decide_eq_false c5
   clear c5
   have H' := Aside0.mk H
   clear H
   obtain ⟨_,_,_,_,_,_,_,_,_,_⟩ := bk5 (HM.bx 3 rfl)
   obtain ⟨Xo4, ko4, rfl⟩ := HM.rd 0 rfl
   obtain ⟨Xo6, ko6, rfl⟩ := HM.rd 1 rfl
   go_wp2
   repeat (go_quiet (fail); try go_wp2_with (fail))
   go_meet
   case rel => exact ⟨_, (((l0_3.length : Int) == 0)), RS, H', ⟨by first | omega | exact Nat.le_refl _⟩, (MD HM).pick [0, 1, 2, 3]⟩
 case rest =>
  clear HC2 HM
  obtain ⟨kq, x23_1, rfl, HA, HJ1, HM⟩ := hcut
  cases kq with
  | zero => exact absurd HA.out (by simp [impl_Three_evict.j0])
  | succ kj1 =>
   have H := HA.out
   clear HA
   simp only [impl_Three_evict.j0] at H
   go_upto_if 23 with (fail)
   repeat (go_quiet (fail); go_upto_if 23 with (fail))
   replace H := IB H
   rcases H with ⟨c7, H⟩ | ⟨c7, H⟩
   ·subst c7
    replace H := BN H; obtain ⟨⟨t337, t338, t339, t342, t345, t348, t349⟩, A8, H⟩ := H
    go_upto_if 29 with (first | ((with_reducible refine gC 98 rfl ?_); refine pC (some 26) rfl #[.pointer (some ⟨g, 0, none⟩)] rfl Try.func98 (impl_Three_evictSmall.calls kj1 g a0_0 a0_1 u9000_ l0_2 u9001_ l0_3 u9002_ l0_4 t337 t338 t339 t342 t345 t348 t349 _ _ _ (HM.focus [] [0, 1, 2, 3]) A8.out) ?_; rintro e w9 ⟨v340, v343, v346, rfl, hR⟩; refine ⟨_, rfl, ?_⟩; replace HM := nzM hR.unfocus; clear hR))
    repeat (go_quiet (first | ((with_reducible refine gC 98 rfl ?_); refine pC (some 26) rfl #[.pointer (some ⟨g, 0, none⟩)] rfl Try.func98 (impl_Three_evictSmall.calls kj1 g a0_0 a0_1 u9000_ l0_2 u9001_ l0_3 u9002_ l0_4 t337 t338 t339 t342 t345 t348 t349 _ _ _ (HM.focus [] [0, 1, 2, 3]) A8.out) ?_; rintro e w9 ⟨v340, v343, v346, rfl, hR⟩; refine ⟨_, rfl, ?_⟩; replace HM := nzM hR.unfocus; clear hR)); go_upto_if 29 with (first | ((with_reducible refine gC 98 rfl ?_); refine pC (some 26) rfl #[.pointer (some ⟨g, 0, none⟩)] rfl Try.func98 (impl_Three_evictSmall.calls kj1 g a0_0 a0_1 u9000_ l0_2 u9001_ l0_3 u9002_ l0_4 t337 t338 t339 t342 t345 t348 t349 _ _ _ (HM.focus [] [0, 1, 2, 3]) A8.out) ?_; rintro e w9 ⟨v340, v343, v346, rfl, hR⟩; refine ⟨_, rfl, ?_⟩; replace HM := nzM hR.unfocus; clear hR)))
    replace H := IB H
    rcases H with ⟨c10, H⟩ | ⟨c10, H⟩
    ·subst c10
     simp only [Option.some.injEq, Prod.mk.injEq] at H
     obtain ⟨rfl, rfl, rfl, rfl, rfl, rfl, rfl⟩ := H
     go_wp2
     repeat (go_quiet (fail); try go_wp2_with (fail))
     go_ret2
     first | exact ⟨_, _, _, ER, (MD HM).pick [0, 1, 2, 3]⟩ | exact ⟨ER, _, _, _, (MD HM).pick [0, 1, 2, 3]⟩
    ·subst c10
     replace H := BN H; obtain ⟨⟨t350, t351, t352, t355, t358, t361, t362⟩, A11, H⟩ := H
     simp only [Option.some.injEq, Prod.mk.injEq] at H
     obtain ⟨rfl, rfl, rfl, rfl, rfl, rfl, rfl⟩ := H
     go_wp2_with (first | ((with_reducible refine gC 99 rfl ?_); refine pC (some 32) rfl #[.pointer (some ⟨g, 0, none⟩)] rfl Try.func99 (impl_Three_evictMain.calls kj1 g t337 t338 v340 t339 v343 t342 v346 t345 t350 t351 t352 t355 t358 t361 t362 _ _ _ (HM.focus [] [0, 1, 2, 3]) A11.out) ?_; rintro e w12 ⟨v353, v356, v359, rfl, hR⟩; refine ⟨_, rfl, ?_⟩; replace HM := nzM hR.unfocus; clear hR))
     repeat (go_quiet (first | ((with_reducible refine gC 99 rfl ?_); refine pC (some 32) rfl #[.pointer (some ⟨g, 0, none⟩)] rfl Try.func99 (impl_Three_evictMain.calls kj1 g t337 t338 v340 t339 v343 t342 v346 t345 t350 t351 t352 t355 t358 t361 t362 _ _ _ (HM.focus [] [0, 1, 2, 3]) A11.out) ?_; rintro e w12 ⟨v353, v356, v359, rfl, hR⟩; refine ⟨_, rfl, ?_⟩; replace HM := nzM hR.unfocus; clear hR)); try go_wp2_with (first | ((with_reducible refine gC 99 rfl ?_); refine pC (some 32) rfl #[.pointer (some ⟨g, 0, none⟩)] rfl Try.func99 (impl_Three_evictMain.calls kj1 g t337 t338 v340 t339 v343 t342 v346 t345 t350 t351 t352 t355 t358 t361 t362 _ _ _ (HM.focus [] [0, 1, 2, 3]) A11.out) ?_; rintro e w12 ⟨v353, v356, v359, rfl, hR⟩; refine ⟨_, rfl, ?_⟩; replace HM := nzM hR.unfocus; clear hR)))
     go_ret2
     first | exact ⟨_, _, _, ER, (MD HM).pick [0, 1, 2, 3]⟩ | exact ⟨ER, _, _, _, (MD HM).pick [0, 1, 2, 3]⟩
   ·subst c7
    replace H := BN H; obtain ⟨⟨t363, t364, t365, t368, t371, t374, t375⟩, A13, H⟩ := H
    simp only [Option.some.injEq, Prod.mk.injEq] at H
    obtain ⟨rfl, rfl, rfl, rfl, rfl, rfl, rfl⟩ := H
    go_wp2_with (first | ((with_reducible refine gC 99 rfl ?_); refine pC (some 36) rfl #[.pointer (some ⟨g, 0, none⟩)] rfl Try.func99 (impl_Three_evictMain.calls kj1 g a0_0 a0_1 u9000_ l0_2 u9001_ l0_3 u9002_ l0_4 t363 t364 t365 t368 t371 t374 t375 _ _ _ (HM.focus [] [0, 1, 2, 3]) A13.out) ?_; rintro e w14 ⟨v366, v369, v372, rfl, hR⟩; refine ⟨_, rfl, ?_⟩; replace HM := nzM hR.unfocus; clear hR))
    repeat (go_quiet (first | ((with_reducible refine gC 99 rfl ?_); refine pC (some 36) rfl #[.pointer (some ⟨g, 0, none⟩)] rfl Try.func99 (impl_Three_evictMain.calls kj1 g a0_0 a0_1 u9000_ l0_2 u9001_ l0_3 u9002_ l0_4 t363 t364 t365 t368 t371 t374 t375 _ _ _ (HM.focus [] [0, 1, 2, 3]) A13.out) ?_; rintro e w14 ⟨v366, v369, v372, rfl, hR⟩; refine ⟨_, rfl, ?_⟩; replace HM := nzM hR.unfocus; clear hR)); try go_wp2_with (first | ((with_reducible refine gC 99 rfl ?_); refine pC (some 36) rfl #[.pointer (some ⟨g, 0, none⟩)] rfl Try.func99 (impl_Three_evictMain.calls kj1 g a0_0 a0_1 u9000_ l0_2 u9001_ l0_3 u9002_ l0_4 t363 t364 t365 t368 t371 t374 t375 _ _ _ (HM.focus [] [0, 1, 2, 3]) A13.out) ?_; rintro e w14 ⟨v366, v369, v372, rfl, hR⟩; refine ⟨_, rfl, ?_⟩; replace HM := nzM hR.unfocus; clear hR)))
    go_ret2
    first | exact ⟨_, _, _, ER, (MD HM).pick [0, 1, 2, 3]⟩ | exact ⟨ER, _, _, _, (MD HM).pick [0, 1, 2, 3]⟩
theorem impl_Put.clo84 (B : Nat) (h : Int) : delInt.Clo 84 Try.f84 B h := by
 refine ⟨Try.func84, by kernel_rfl, by rfl, fun y W hb => ?_⟩
 have HB := Aside0.mk (Below.refl W.heap.size W)
 have hc : W.cell? ⟨B, 0, none⟩ = some (.int .i64 h) := (blk_cell hb 0).trans rfl
 clear hb
 go_enter Try.func84, Try.ntmps84
 go_wp2
 go_ret
 exact ⟨rfl, HB.out⟩
mutual
def impl_Put.j0 : Nat → ByteArray → ByteArray → Bool → Int → Int → List (S67) → List (S67) → List Int → Option (Int × Int × (List (S67)) × (List (S67)) × List Int × List ByteArray × Bool)
 | 0, _, _, _, _, _, _, _, _ => none
 | k + 1, x1, x2, x24, x377000, x377001, x377002, x377003, x377004 => if x24 = true then (some (0, 0, ([] : List (S67)), ([] : List (S67)), ([] : List Int), ([] : List ByteArray), false)) else ((impl_copyThree.f x377000 x377001 x377002 x377003 x377004).bind fun bt380 => ((some (([] : List ByteArray) : List ByteArray)).bind fun y392 => ((impl_Three_item.f bt380.2.2.1 bt380.2.2.2.1 x1).bind fun t395 => (if t395 ≥ 0 then (if t395 < (bt380.2.2.1.length : Int) then (if 0 ≤ t395 then ((some (bt380.2.2.1.set (t395 : Int).toNat (⟨(rd_T67 bt380.2.2.1 t395).f0, x2, (rd_T67 bt380.2.2.1 t395).f2⟩ : S67) : List (S67))).bind fun y396 => (some (bt380.1, bt380.2.1, (y396.set (t395 : Int).toNat (⟨(rd_T67 y396 t395).f0, (rd_T67 y396 t395).f1, mn 3 (wrap64 (((rd_T67 y396 t395).f2) + 1))⟩ : S67)), bt380.2.2.2.1, bt380.2.2.2.2, y392, true))) else (none)) else (if 0 ≤ (wrap64 (t395 - (bt380.2.2.1.length : Int))) then (if (wrap64 (t395 - (bt380.2.2.1.length : Int))) < (bt380.2.2.2.1.length : Int) then ((some (bt380.2.2.2.1.set ((wrap64 (t395 - (bt380.2.2.1.length : Int))) : Int).toNat (⟨(rd_T67 bt380.2.2.2.1 (wrap64 (t395 - (bt380.2.2.1.length : Int)))).f0, x2, (rd_T67 bt380.2.2.2.1 (wrap64 (t395 - (bt380.2.2.1.length : Int)))).f2⟩ : S67) : List (S67))).bind fun y398 => (some (bt380.1, bt380.2.1, bt380.2.2.1, (y398.set ((wrap64 (t395 - (bt380.2.2.1.length : Int))) : Int).toNat (⟨(rd_T67 y398 (wrap64 (t395 - (bt380.2.2.1.length : Int)))).f0, (rd_T67 y398 (wrap64 (t395 - (bt380.2.2.1.length : Int)))).f1, mn 3 (wrap64 (((rd_T67 y398 (wrap64 (t395 - (bt380.2.2.1.length : Int)))).f2) + 1))⟩ : S67)), bt380.2.2.2.2, y392, true))) else (none)) else (none))) else (impl_Put.l0 k x1 x2 y392 bt380.1 bt380.2.1 bt380.2.2.1 bt380.2.2.2.1 bt380.2.2.2.2)))))
def impl_Put.l0 : Nat → ByteArray → ByteArray → List ByteArray → Int → Int → List (S67) → List (S67) → List Int → Option (Int × Int × (List (S67)) × (List (S67)) × List Int × List ByteArray × Bool)
 | 0, _, _, _, _, _, _, _, _ => none
 | k + 1, x1, x2, x10, x392000, x392001, x392002, x392003, x392004 => if (wrap64 ((x392002.length : Int) + (x392003.length : Int))) ≥ x392000 then ((impl_Three_evict.f k x392000 x392001 x392002 x392003 x392004).bind fun bt400 => (if x10.length < 8796093022208 then (impl_Put.l0 k x1 x2 (x10 ++ [bt400.2.2.2.2.2.1]) bt400.1 bt400.2.1 bt400.2.2.1 bt400.2.2.2.1 bt400.2.2.2.2.1) else (none))) else ((impl_Hash.f k x1).bind fun t416 => ((slices_Contains_int_int.f k x392004 t416).bind fun t418 => (if t418 = true then ((slices_DeleteFunc_int_int.f x392004 t416).bind fun t419 => (if x392003.length < 3518437208883 then ((impl_copyThree.f x392000 x392001 x392002 (x392003 ++ [(⟨x1, x2, 0⟩ : S67)]) t419).bind fun bt425 => (some (bt425.1, bt425.2.1, bt425.2.2.1, bt425.2.2.2.1, bt425.2.2.2.2, x10, true))) else (none))) else (if x392002.length < 3518437208883 then ((impl_copyThree.f x392000 x392001 (x392002 ++ [(⟨x1, x2, 0⟩ : S67)]) x392003 x392004).bind fun bt439 => (some (bt439.1, bt439.2.1, bt439.2.2.1, bt439.2.2.2.1, bt439.2.2.2.2, x10, true))) else (none)))))
end
def impl_Put.f (k : Nat) (a0_0 : Int) (a0_1 : Int) (l0_2 : List (S67)) (l0_3 : List (S67)) (l0_4 : List Int) (a1 : ByteArray) (a2 : ByteArray) : Option (Int × Int × (List (S67)) × (List (S67)) × List Int × List ByteArray × Bool) := (impl_ThreeOk.f k a0_0 a0_1 l0_2 l0_3 l0_4).bind fun t378 => (if t378 = true then ((impl_ItemOk.f k a1 a2 0).bind fun t379 => (impl_Put.j0 k a1 a2 (!t379) a0_0 a0_1 l0_2 l0_3 l0_4)) else (impl_Put.j0 k a1 a2 true a0_0 a0_1 l0_2 l0_3 l0_4))
theorem impl_Put.calls (k : Nat) (a0_0 : Int) (a0_1 : Int) (A0_2 : Option Addr) (c0_2 : Nat) (l0_2 : List (S67)) (A0_3 : Option Addr) (c0_3 : Nat) (l0_3 : List (S67)) (A0_4 : Option Addr) (c0_4 : Nat) (l0_4 : List Int) (a1 : ByteArray) (a2 : ByteArray) (r1 : Int) (r2 : Int) (r3 : List (S67)) (r4 : List (S67)) (r5 : List Int) (r6 : List ByteArray) (r7 : Bool) (w : World) (hr0_2 : Kd.C k67 w A0_2 l0_2.length l0_2) (hc0_2 : l0_2.length ≤ c0_2) (hr0_3 : Kd.C k67 w A0_3 l0_3.length l0_3) (hc0_3 : l0_3.length ≤ c0_3) (hr0_4 : Kd.C (Kd.int .i64) w A0_4 l0_4.length l0_4) (hc0_4 : l0_4.length ≤ c0_4) (h : impl_Put.f k a0_0 a0_1 l0_2 l0_3 l0_4 a1 a2 = some (r1, r2, r3, r4, r5, r6, r7)) :
  Calls Try.prog 62 #[.agg #[.int .i64 a0_0, .int .i64 a0_1, .slice A0_2 l0_2.length c0_2, .slice A0_3 l0_3.length c0_3, .slice A0_4 l0_4.length c0_4], .string a1, .string a2] w fun e w' => ∃ v2_ v3_ v4_ v5_ : Value, e = .returned (.tuple #[.agg #[.int .i64 r1, .int .i64 r2, v2_, v3_, v4_], v5_, .bool r7]) ∧ Mem w [] w' [rowR k67 67 v2_ r3, rowR k67 67 v3_ r4, rowR (Kd.int .i64) 3 v4_ r5, rowR Kd.string 9 v5_ r6] := by
 have hu71 := Try.underlying71
 have hu67 := Try.underlying67
 have HR0_2 := Aside0.mk hr0_2
 have HC0_2 := Aside0.mk hc0_2
 clear hr0_2 hc0_2
 have HR0_3 := Aside0.mk hr0_3
 have HC0_3 := Aside0.mk hc0_3
 clear hr0_3 hc0_3
 have HR0_4 := Aside0.mk hr0_4
 have HC0_4 := Aside0.mk hc0_4
 clear hr0_4 hc0_4
 have HM := Mem.nil w
 have H := h
 clear h
 unfold impl_Put.f at H
 go_enter Try.func62, Try.ntmps62
 have HC6 := Aside0.mk H
 clear H
 go_upto_region 1 with (first | ((with_reducible refine gN 3 rfl ?_); refine pB 3 71 [.int .i64 a0_0, .int .i64 a0_1, .slice A0_2 l0_2.length c0_2, .slice A0_3 l0_3.length c0_3, .slice A0_4 l0_4.length c0_4] HM rfl ?_; clear HM; intro gb376 w4 HM) | ((with_reducible refine gN 6 rfl ?_); refine pB 6 71 [.int .i64 0, .int .i64 0, .slice none 0 0, .slice none 0 0, .slice none 0 0] HM rfl ?_; clear HM; intro gb377 w5 HM))
 replace HM := nzM HM
 try simp only [Act.put, List.setIfInBounds_toArray, List.set_cons_zero, List.set_cons_succ]
 go_cut [24] (fun v24 wc => ∃ (kq : Nat) (x24_5 : Bool), v24 = .bool x24_5 ∧ Aside0 (impl_Put.j0 kq a1 a2 x24_5 a0_0 a0_1 l0_2 l0_3 l0_4 = some (r1, r2, r3, r4, r5, r6, r7)) ∧ Aside0 (kq ≤ k) ∧ Mem w [] wc [box 71 gb376 [.int .i64 a0_0, .int .i64 a0_1, .slice A0_2 l0_2.length c0_2, .slice A0_3 l0_3.length c0_3, .slice A0_4 l0_4.length c0_4], box 71 gb377 [.int .i64 0, .int .i64 0, .slice none 0 0, .slice none 0 0, .slice none 0 0]])
 case first =>
  have H := HC6.out
  clear HC6
  replace H := BN H; obtain ⟨t378, A8, H⟩ := H
  replace H := IB H
  rcases H with ⟨c10, H⟩ | ⟨c10, H⟩
  ·subst c10
   replace H := BN H; obtain ⟨t379, A11, H⟩ := H
   have H' := Aside0.mk H
   clear H
   obtain ⟨_,_,_,_,_,_,_,_,_,_⟩ := bk5 (HM.bx 0 rfl)
   go_wp2_with (first | ((with_reducible refine gC 59 rfl ?_); refine pC (some 16) rfl #[.agg #[.int .i64 a0_0, .int .i64 a0_1, .slice A0_2 l0_2.length c0_2, .slice A0_3 l0_3.length c0_3, .slice A0_4 l0_4.length c0_4]] rfl Try.func59 (impl_ThreeOk.calls k a0_0 a0_1 _ _ l0_2 _ _ l0_3 _ _ l0_4 true _ (HM.came HR0_2.out) HC0_2.out (HM.came HR0_3.out) HC0_3.out (HM.came HR0_4.out) HC0_4.out A8.out) ?_; rintro e w9 ⟨rfl, hR⟩; refine ⟨_, rfl, ?_⟩; replace HM := HM.call hR; clear hR) | ((with_reducible refine gC 42 rfl ?_); refine pC (some 22) rfl #[.agg #[.string a1, .string a2, .int .i64 0]] rfl Try.func42 (impl_ItemOk.calls k a1 a2 0 t379 _ A11.out) ?_; rintro e w12 ⟨rfl, hR⟩; refine ⟨_, rfl, ?_⟩; replace HM := HM.call hR; clear hR))
   go_meet
   case rel => exact ⟨_, (!t379), RS, H', ⟨by first | omega | exact Nat.le_refl _⟩, (MD HM).pick [0, 1]⟩
  ·subst c10
   have H' := Aside0.mk H
   clear H
   obtain ⟨_,_,_,_,_,_,_,_,_,_⟩ := bk5 (HM.bx 0 rfl)
   go_wp2_with (first | ((with_reducible refine gC 59 rfl ?_); refine pC (some 16) rfl #[.agg #[.int .i64 a0_0, .int .i64 a0_1, .slice A0_2 l0_2.length c0_2, .slice A0_3 l0_3.length c0_3, .slice A0_4 l0_4.length c0_4]] rfl Try.func59 (impl_ThreeOk.calls k a0_0 a0_1 _ _ l0_2 _ _ l0_3 _ _ l0_4 false _ (HM.came HR0_2.out) HC0_2.out (HM.came HR0_3.out) HC0_3.out (HM.came HR0_4.out) HC0_4.out A8.out) ?_; rintro e w9 ⟨rfl, hR⟩; refine ⟨_, rfl, ?_⟩; replace HM := HM.call hR; clear hR))
   go_meet
   case rel => exact ⟨_, (true), RS, H', ⟨by first | omega | exact Nat.le_refl _⟩, (MD HM).pick [0, 1]⟩
 case rest =>
  clear HC6 HM
  obtain ⟨kq, x24_5, rfl, HA, HJ5, HM⟩ := hcut
  cases kq with
  | zero => exact absurd HA.out (by simp [impl_Put.j0])
  | succ kj5 =>
   have H := HA.out
   clear HA
   simp only [impl_Put.j0] at H
   replace H := IB H
   rcases H with ⟨c13, H⟩ | ⟨c13, H⟩
   ·subst c13
    simp only [Option.some.injEq, Prod.mk.injEq] at H
    obtain ⟨rfl, rfl, rfl, rfl, rfl, rfl, rfl⟩ := H
    go_wp2_with (first | ((with_reducible refine gS 6 rfl ?_); refine pS 1 6 0 [.int .i64 0, .int .i64 0, .slice none 0 0, .slice none 0 0, .slice none 0 0] HM rfl rfl ?_; clear HM; intro w14 HM; replace HM := HM.nl k67 67; replace HM := HM.nl k67 67; replace HM := HM.nl (Kd.int .i64) 3; replace HM := HM.nl Kd.string 9))
    refine bodyPost_ret (results_ctt rfl _ _ gb377 71 #[.int .i64 0, .int .i64 0, .slice none 0 0, .slice none 0 0, .slice none 0 0] (0, 0) _ rfl (HM.bx 1 rfl) Try.underlying71 rfl (by kernel_rfl)) rfl ?_
    exact ⟨_, _, _, _, ER, (MD HM).pick [2, 3, 4, 5]⟩
   ·subst c13
    replace H := BN H; obtain ⟨⟨t380, t381, t382, t385, t388⟩, A16, H⟩ := H
    replace H := BLt H; obtain ⟨y392, Ny392, H⟩ := H
    replace Ny392 := Aside0.mk Ny392
    replace H := BN H; obtain ⟨t395, A25, H⟩ := H
    replace H := IT H; rcases H with ⟨c27, H⟩ | ⟨c27, H⟩
    ·have c27b0 : decide (0 ≤ t395) = true := decide_eq_true c27
     clear c27
     replace H := IT H; rcases H with ⟨c29, H⟩ | ⟨c29, H⟩
     ·have c29b0 : decide (t395 < (t382.length : Int)) = true := decide_eq_true c29
      clear c29
      replace H := GD H; obtain ⟨c30, H⟩ := H
      have c30b0 : decide (0 ≤ t395) = true := decide_eq_true c30
      clear c30
      replace H := BLt H; obtain ⟨y396, Ny396, H⟩ := H
      replace Ny396 := Aside0.mk Ny396
      obtain ⟨ji35, hji35⟩ : ∃ j_ : Int, (mn 3 (wrap64 (((rd_T67 y396 t395).f2) + 1))) = j_ := ⟨_, rfl⟩
      (first | rw [hji35] at H | simp only [hji35] at H | skip)
      have hji35_ : (if (wrap64 (((rd_T67 y396 t395).f2) + 1)) < 3 then (wrap64 (((rd_T67 y396 t395).f2) + 1)) else 3) = ji35 := hji35
      (try (have hji35h : ji35 ≤ 3 := by (rw [← hji35]; unfold mn; (repeat' split) <;> omega)))
      simp only [Option.some.injEq, Prod.mk.injEq] at H
      obtain ⟨rfl, rfl, rfl, rfl, rfl, rfl, rfl⟩ := H
      obtain ⟨_,_,_,_,_,_,_,_,_,_⟩ := bk5 (HM.bx 0 rfl)
      go_wp2_with (first | ((with_reducible refine gC 79 rfl ?_); refine pC (some 27) rfl #[.agg #[.int .i64 a0_0, .int .i64 a0_1, .slice A0_2 l0_2.length c0_2, .slice A0_3 l0_3.length c0_3, .slice A0_4 l0_4.length c0_4]] rfl Try.func79 (impl_copyThree.calls a0_0 a0_1 _ _ l0_2 _ _ l0_3 _ _ l0_4 t380 t381 t382 t385 t388 _ (HM.came HR0_2.out) HC0_2.out (HM.came HR0_3.out) HC0_3.out (HM.came HR0_4.out) HC0_4.out A16.out) ?_; rintro e w17 ⟨v383, v386, v389, rfl, hR⟩; refine ⟨_, rfl, ?_⟩; replace HM := HM.call hR; clear hR) | ((with_reducible refine gN 9 rfl ?_); refine pB 9 71 [.int .i64 0, .int .i64 0, .slice none 0 0, .slice none 0 0, .slice none 0 0] HM rfl ?_; clear HM; intro gb391 w18 HM; obtain ⟨Xo19, ko19, rfl⟩ := HM.rdR 2 rfl; obtain ⟨Xo20, ko20, rfl⟩ := HM.rdR 3 rfl; obtain ⟨Xo21, ko21, rfl⟩ := HM.rdR 4 rfl) | ((with_reducible refine gS 9 rfl ?_); refine pS 5 9 0 [.int .i64 t380, .int .i64 t381, .slice Xo19 t382.length ko19, .slice Xo20 t385.length ko20, .slice Xo21 t388.length ko21] HM rfl rfl ?_; clear HM; intro w22 HM) | ((with_reducible refine gN 28 rfl ?_); refine pL 28 Kd.string 9 ([] : List ByteArray) [] (Reps.none _ _) HM rfl ?_; clear HM; intro v393 w23 HM; replace HM := HM.nm 6 rfl Ny392.out; obtain ⟨_,_,_,_,_,_,_,_,_,_⟩ := bk5 (HM.bx 5 rfl)) | ((with_reducible refine gC 80 rfl ?_); refine pC (some 30) rfl #[.pointer (some ⟨gb391, 0, none⟩), .string a1] rfl Try.func80 (impl_Three_item.calls gb391 t380 t381 (.slice Xo21 t388.length ko21) Xo19 ko19 t382 Xo20 ko20 t385 a1 t395 _ (HM.CR 2 rfl).2.2 (HM.CR 2 rfl).2.1 (HM.CR 3 rfl).2.2 (HM.CR 3 rfl).2.1 (HM.bx 5 rfl) A25.out) ?_; rintro e w26 ⟨rfl, hb⟩; refine ⟨_, rfl, ?_⟩; replace HM := HM.below hb; clear hb; have pf32 : 0 ≤ (t395 : Int) := of_decide_eq_true AS; have qf32 : (t395 : Int) < ((t382.length : Int) : Int) := of_decide_eq_true AS; obtain ⟨gof32, eff32⟩ := HM.form 2 rfl (by have h_ := (HM.CR 2 rfl).1; omega); subst eff32; clear pf32 qf32; (first | rw [impl_Three_item.ptr_nil (by assumption)] | rw [impl_Three_item.ptr_small (by assumption) (by assumption)] | rw [impl_Three_item.ptr_main (by assumption) (by assumption)] | rw [impl_Three_item.ptr_nil' (by assumption)] | rw [impl_Three_item.ptr_small' (by assumption) (by assumption)] | rw [impl_Three_item.ptr_main' (by assumption) (by assumption)]); obtain ⟨_,_,_,_,_,_,_,_,_,_⟩ := bk5 (HM.bx 5 rfl); have p31 : 0 ≤ (t395 : Int) := of_decide_eq_true AS; have q31 : (t395 : Int) < ((t382.length : Int) : Int) := of_decide_eq_true AS; obtain ⟨hx31_0, hx31_1, hx31_2, hf31_0, hf31_1, hf31_2⟩ := HM.el3 2 rfl z67 (t395 : Int) p31 (by have h_ := (HM.CR 2 rfl).1; omega) (.string ((rd_T67 t382 t395).f0)) (.string ((rd_T67 t382 t395).f1)) (.int .i64 ((rd_T67 t382 t395).f2)) (fun _ _ h => k67_openM h); replace p31 := eq_true p31; replace q31 := eq_true q31) | ((with_reducible refine gS 36 rfl ?_); refine pPR 2 36 (t395 : Int) 1 [.string a2] k67 67 t382 (⟨(rd_T67 t382 t395).f0, a2, (rd_T67 t382 t395).f2⟩ : S67) z67 [.string ((rd_T67 t382 t395).f0), .string ((rd_T67 t382 t395).f1), .int .i64 ((rd_T67 t382 t395).f2)] HM rfl rfl (of_decide_eq_true AS) (by have h_ : (t395 : Int) < ((t382.length : Int) : Int) := of_decide_eq_true AS; have e_ := (HM.CR 2 rfl).1; omega) (fun _ _ h => k67_openM h) (k67_mkM _ _ _ (⟨(rd_T67 t382 t395).f0, a2, (rd_T67 t382 t395).f2⟩ : S67)) ?_; clear HM; intro w33 HM; replace HM := HM.nm 2 rfl Ny396.out; have p34 : 0 ≤ (t395 : Int) := of_decide_eq_true AS; have q34 : (t395 : Int) < ((t382.length : Int) : Int) := of_decide_eq_true AS; obtain ⟨hx34_0, hx34_1, hx34_2, hf34_0, hf34_1, hf34_2⟩ := HM.el3 2 rfl z67 (t395 : Int) p34 (by have h_ := (HM.CR 2 rfl).1; omega) (.string ((rd_T67 y396 t395).f0)) (.string ((rd_T67 y396 t395).f1)) (.int .i64 ((rd_T67 y396 t395).f2)) (fun _ _ h => k67_openM h); replace p34 := eq_true p34; replace q34 := eq_true q34) | ((with_reducible refine gS 45 rfl ?_); refine pPR 2 45 (t395 : Int) 2 [.int .i64 ji35] k67 67 y396 (⟨(rd_T67 y396 t395).f0, (rd_T67 y396 t395).f1, ji35⟩ : S67) z67 [.string ((rd_T67 y396 t395).f0), .string ((rd_T67 y396 t395).f1), .int .i64 ((rd_T67 y396 t395).f2)] HM rfl rfl (of_decide_eq_true AS) (by have h_ : (t395 : Int) < ((t382.length : Int) : Int) := of_decide_eq_true AS; have e_ := (HM.CR 2 rfl).1; omega) (fun _ _ h => k67_openM h) (k67_mkM _ _ _ (⟨(rd_T67 y396 t395).f0, (rd_T67 y396 t395).f1, ji35⟩ : S67)) ?_; clear HM; intro w36 HM; have p37 : 0 ≤ (t395 : Int) := of_decide_eq_true AS; have q37 : (t395 : Int) < ((t382.length : Int) : Int) := of_decide_eq_true AS; obtain ⟨hx37_0, hx37_1, hx37_2, hf37_0, hf37_1, hf37_2⟩ := HM.el3 2 rfl z67 (t395 : Int) p37 (by have h_ := (HM.CR 2 rfl).1; omega) (.string ((rd_T67 (y396.set (t395 : Int).toNat (⟨(rd_T67 y396 t395).f0, (rd_T67 y396 t395).f1, ji35⟩ : S67)) t395).f0)) (.string ((rd_T67 (y396.set (t395 : Int).toNat (⟨(rd_T67 y396 t395).f0, (rd_T67 y396 t395).f1, ji35⟩ : S67)) t395).f1)) (.int .i64 ((rd_T67 (y396.set (t395 : Int).toNat (⟨(rd_T67 y396 t395).f0, (rd_T67 y396 t395).f1, ji35⟩ : S67)) t395).f2)) (fun _ _ h => k67_openM h); replace p37 := eq_true p37; replace q37 := eq_true q37; obtain ⟨_,_,_,_,_,_,_,_,_,_⟩ := bk5 (HM.bx 5 rfl)) | ((with_reducible refine gS 6 rfl ?_); refine pS 1 6 0 [.int .i64 t380, .int .i64 t381, .slice (some ⟨gof32, 0, none⟩) t382.length ko19, .slice Xo20 t385.length ko20, .slice Xo21 t388.length ko21] HM rfl rfl ?_; clear HM; intro w39 HM))
      refine bodyPost_ret (results_ctt rfl _ _ gb377 71 #[.int .i64 t380, .int .i64 t381, .slice (some ⟨gof32, 0, none⟩) t382.length ko19, .slice Xo20 t385.length ko20, .slice Xo21 t388.length ko21] (0, 0) _ rfl (HM.bx 1 rfl) Try.underlying71 rfl (by kernel_rfl)) rfl ?_
      exact ⟨_, _, _, _, ER, (MD HM).pick [2, 3, 4, 6]⟩
     ·have c29b0 : decide (t395 < (t382.length : Int)) = false := decide_eq_false c29
      clear c29
      replace H := GD H; obtain ⟨c40, H⟩ := H
      have c40b0 : decide (0 ≤ (wrap64 (t395 - (t382.length : Int)))) = true := decide_eq_true c40
      clear c40
      replace H := GD H; obtain ⟨c41, H⟩ := H
      have c41b0 : decide ((wrap64 (t395 - (t382.length : Int))) < (t385.length : Int)) = true := decide_eq_true c41
      clear c41
      replace H := BLt H; obtain ⟨y398, Ny398, H⟩ := H
      replace Ny398 := Aside0.mk Ny398
      obtain ⟨ji46, hji46⟩ : ∃ j_ : Int, (mn 3 (wrap64 (((rd_T67 y398 (wrap64 (t395 - (t382.length : Int)))).f2) + 1))) = j_ := ⟨_, rfl⟩
      (first | rw [hji46] at H | simp only [hji46] at H | skip)
      have hji46_ : (if (wrap64 (((rd_T67 y398 (wrap64 (t395 - (t382.length : Int)))).f2) + 1)) < 3 then (wrap64 (((rd_T67 y398 (wrap64 (t395 - (t382.length : Int)))).f2) + 1)) else 3) = ji46 := hji46
      (try (have hji46h : ji46 ≤ 3 := by (rw [← hji46]; unfold mn; (repeat' split) <;> omega)))
      simp only [Option.some.injEq, Prod.mk.injEq] at H
      obtain ⟨rfl, rfl, rfl, rfl, rfl, rfl, rfl⟩ := H
      obtain ⟨_,_,_,_,_,_,_,_,_,_⟩ := bk5 (HM.bx 0 rfl)
      go_wp2_with (first | ((with_reducible refine gC 79 rfl ?_); refine pC (some 27) rfl #[.agg #[.int .i64 a0_0, .int .i64 a0_1, .slice A0_2 l0_2.length c0_2, .slice A0_3 l0_3.length c0_3, .slice A0_4 l0_4.length c0_4]] rfl Try.func79 (impl_copyThree.calls a0_0 a0_1 _ _ l0_2 _ _ l0_3 _ _ l0_4 t380 t381 t382 t385 t388 _ (HM.came HR0_2.out) HC0_2.out (HM.came HR0_3.out) HC0_3.out (HM.came HR0_4.out) HC0_4.out A16.out) ?_; rintro e w17 ⟨v383, v386, v389, rfl, hR⟩; refine ⟨_, rfl, ?_⟩; replace HM := HM.call hR; clear hR) | ((with_reducible refine gN 9 rfl ?_); refine pB 9 71 [.int .i64 0, .int .i64 0, .slice none 0 0, .slice none 0 0, .slice none 0 0] HM rfl ?_; clear HM; intro gb391 w18 HM; obtain ⟨Xo19, ko19, rfl⟩ := HM.rdR 2 rfl; obtain ⟨Xo20, ko20, rfl⟩ := HM.rdR 3 rfl; obtain ⟨Xo21, ko21, rfl⟩ := HM.rdR 4 rfl) | ((with_reducible refine gS 9 rfl ?_); refine pS 5 9 0 [.int .i64 t380, .int .i64 t381, .slice Xo19 t382.length ko19, .slice Xo20 t385.length ko20, .slice Xo21 t388.length ko21] HM rfl rfl ?_; clear HM; intro w22 HM) | ((with_reducible refine gN 28 rfl ?_); refine pL 28 Kd.string 9 ([] : List ByteArray) [] (Reps.none _ _) HM rfl ?_; clear HM; intro v393 w23 HM; replace HM := HM.nm 6 rfl Ny392.out; obtain ⟨_,_,_,_,_,_,_,_,_,_⟩ := bk5 (HM.bx 5 rfl)) | ((with_reducible refine gC 80 rfl ?_); refine pC (some 30) rfl #[.pointer (some ⟨gb391, 0, none⟩), .string a1] rfl Try.func80 (impl_Three_item.calls gb391 t380 t381 (.slice Xo21 t388.length ko21) Xo19 ko19 t382 Xo20 ko20 t385 a1 t395 _ (HM.CR 2 rfl).2.2 (HM.CR 2 rfl).2.1 (HM.CR 3 rfl).2.2 (HM.CR 3 rfl).2.1 (HM.bx 5 rfl) A25.out) ?_; rintro e w26 ⟨rfl, hb⟩; refine ⟨_, rfl, ?_⟩; replace HM := HM.below hb; clear hb; have pf43 : 0 ≤ ((wrap64 (t395 - (t382.length : Int))) : Int) := of_decide_eq_true AS; have qf43 : ((wrap64 (t395 - (t382.length : Int))) : Int) < ((t385.length : Int) : Int) := of_decide_eq_true AS; obtain ⟨gof43, eff43⟩ := HM.form 3 rfl (by have h_ := (HM.CR 3 rfl).1; omega); subst eff43; clear pf43 qf43; (first | rw [impl_Three_item.ptr_nil (by assumption)] | rw [impl_Three_item.ptr_small (by assumption) (by assumption)] | rw [impl_Three_item.ptr_main (by assumption) (by assumption)] | rw [impl_Three_item.ptr_nil' (by assumption)] | rw [impl_Three_item.ptr_small' (by assumption) (by assumption)] | rw [impl_Three_item.ptr_main' (by assumption) (by assumption)]); obtain ⟨_,_,_,_,_,_,_,_,_,_⟩ := bk5 (HM.bx 5 rfl); have p42 : 0 ≤ ((wrap64 (t395 - (t382.length : Int))) : Int) := of_decide_eq_true AS; have q42 : ((wrap64 (t395 - (t382.length : Int))) : Int) < ((t385.length : Int) : Int) := of_decide_eq_true AS; obtain ⟨hx42_0, hx42_1, hx42_2, hf42_0, hf42_1, hf42_2⟩ := HM.el3 3 rfl z67 ((wrap64 (t395 - (t382.length : Int))) : Int) p42 (by have h_ := (HM.CR 3 rfl).1; omega) (.string ((rd_T67 t385 (wrap64 (t395 - (t382.length : Int)))).f0)) (.string ((rd_T67 t385 (wrap64 (t395 - (t382.length : Int)))).f1)) (.int .i64 ((rd_T67 t385 (wrap64 (t395 - (t382.length : Int)))).f2)) (fun _ _ h => k67_openM h); replace p42 := eq_true p42; replace q42 := eq_true q42) | ((with_reducible refine gS 36 rfl ?_); refine pPR 3 36 ((wrap64 (t395 - (t382.length : Int))) : Int) 1 [.string a2] k67 67 t385 (⟨(rd_T67 t385 (wrap64 (t395 - (t382.length : Int)))).f0, a2, (rd_T67 t385 (wrap64 (t395 - (t382.length : Int)))).f2⟩ : S67) z67 [.string ((rd_T67 t385 (wrap64 (t395 - (t382.length : Int)))).f0), .string ((rd_T67 t385 (wrap64 (t395 - (t382.length : Int)))).f1), .int .i64 ((rd_T67 t385 (wrap64 (t395 - (t382.length : Int)))).f2)] HM rfl rfl (of_decide_eq_true AS) (by have h_ : ((wrap64 (t395 - (t382.length : Int))) : Int) < ((t385.length : Int) : Int) := of_decide_eq_true AS; have e_ := (HM.CR 3 rfl).1; omega) (fun _ _ h => k67_openM h) (k67_mkM _ _ _ (⟨(rd_T67 t385 (wrap64 (t395 - (t382.length : Int)))).f0, a2, (rd_T67 t385 (wrap64 (t395 - (t382.length : Int)))).f2⟩ : S67)) ?_; clear HM; intro w44 HM; replace HM := HM.nm 3 rfl Ny398.out; have p45 : 0 ≤ ((wrap64 (t395 - (t382.length : Int))) : Int) := of_decide_eq_true AS; have q45 : ((wrap64 (t395 - (t382.length : Int))) : Int) < ((t385.length : Int) : Int) := of_decide_eq_true AS; obtain ⟨hx45_0, hx45_1, hx45_2, hf45_0, hf45_1, hf45_2⟩ := HM.el3 3 rfl z67 ((wrap64 (t395 - (t382.length : Int))) : Int) p45 (by have h_ := (HM.CR 3 rfl).1; omega) (.string ((rd_T67 y398 (wrap64 (t395 - (t382.length : Int)))).f0)) (.string ((rd_T67 y398 (wrap64 (t395 - (t382.length : Int)))).f1)) (.int .i64 ((rd_T67 y398 (wrap64 (t395 - (t382.length : Int)))).f2)) (fun _ _ h => k67_openM h); replace p45 := eq_true p45; replace q45 := eq_true q45) | ((with_reducible refine gS 45 rfl ?_); refine pPR 3 45 ((wrap64 (t395 - (t382.length : Int))) : Int) 2 [.int .i64 ji46] k67 67 y398 (⟨(rd_T67 y398 (wrap64 (t395 - (t382.length : Int)))).f0, (rd_T67 y398 (wrap64 (t395 - (t382.length : Int)))).f1, ji46⟩ : S67) z67 [.string ((rd_T67 y398 (wrap64 (t395 - (t382.length : Int)))).f0), .string ((rd_T67 y398 (wrap64 (t395 - (t382.length : Int)))).f1), .int .i64 ((rd_T67 y398 (wrap64 (t395 - (t382.length : Int)))).f2)] HM rfl rfl (of_decide_eq_true AS) (by have h_ : ((wrap64 (t395 - (t382.length : Int))) : Int) < ((t385.length : Int) : Int) := of_decide_eq_true AS; have e_ := (HM.CR 3 rfl).1; omega) (fun _ _ h => k67_openM h) (k67_mkM _ _ _ (⟨(rd_T67 y398 (wrap64 (t395 - (t382.length : Int)))).f0, (rd_T67 y398 (wrap64 (t395 - (t382.length : Int)))).f1, ji46⟩ : S67)) ?_; clear HM; intro w47 HM; have p48 : 0 ≤ ((wrap64 (t395 - (t382.length : Int))) : Int) := of_decide_eq_true AS; have q48 : ((wrap64 (t395 - (t382.length : Int))) : Int) < ((t385.length : Int) : Int) := of_decide_eq_true AS; obtain ⟨hx48_0, hx48_1, hx48_2, hf48_0, hf48_1, hf48_2⟩ := HM.el3 3 rfl z67 ((wrap64 (t395 - (t382.length : Int))) : Int) p48 (by have h_ := (HM.CR 3 rfl).1; omega) (.string ((rd_T67 (y398.set ((wrap64 (t395 - (t382.length : Int))) : Int).toNat (⟨(rd_T67 y398 (wrap64 (t395 - (t382.length : Int)))).f0, (rd_T67 y398 (wrap64 (t395 - (t382.length : Int)))).f1, ji46⟩ : S67)) (wrap64 (t395 - (t382.length : Int)))).f0)) (.string ((rd_T67 (y398.set ((wrap64 (t395 - (t382.length : Int))) : Int).toNat (⟨(rd_T67 y398 (wrap64 (t395 - (t382.length : Int)))).f0, (rd_T67 y398 (wrap64 (t395 - (t382.length : Int)))).f1, ji46⟩ : S67)) (wrap64 (t395 - (t382.length : Int)))).f1)) (.int .i64 ((rd_T67 (y398.set ((wrap64 (t395 - (t382.length : Int))) : Int).toNat (⟨(rd_T67 y398 (wrap64 (t395 - (t382.length : Int)))).f0, (rd_T67 y398 (wrap64 (t395 - (t382.length : Int)))).f1, ji46⟩ : S67)) (wrap64 (t395 - (t382.length : Int)))).f2)) (fun _ _ h => k67_openM h); replace p48 := eq_true p48; replace q48 := eq_true q48; obtain ⟨_,_,_,_,_,_,_,_,_,_⟩ := bk5 (HM.bx 5 rfl)) | ((with_reducible refine gS 6 rfl ?_); refine pS 1 6 0 [.int .i64 t380, .int .i64 t381, .slice Xo19 t382.length ko19, .slice (some ⟨gof43, 0, none⟩) t385.length ko20, .slice Xo21 t388.length ko21] HM rfl rfl ?_; clear HM; intro w50 HM))
      refine bodyPost_ret (results_ctt rfl _ _ gb377 71 #[.int .i64 t380, .int .i64 t381, .slice Xo19 t382.length ko19, .slice (some ⟨gof43, 0, none⟩) t385.length ko20, .slice Xo21 t388.length ko21] (0, 0) _ rfl (HM.bx 1 rfl) Try.underlying71 rfl (by kernel_rfl)) rfl ?_
      exact ⟨_, _, _, _, ER, (MD HM).pick [2, 3, 4, 6]⟩
    ·have c27b0 : decide (0 ≤ t395) = false := decide_eq_false c27
     clear c27
     have H' := Aside0.mk H
     clear H
     obtain ⟨_,_,_,_,_,_,_,_,_,_⟩ := bk5 (HM.bx 0 rfl)
     go_wp2_with (first | ((with_reducible refine gC 79 rfl ?_); refine pC (some 27) rfl #[.agg #[.int .i64 a0_0, .int .i64 a0_1, .slice A0_2 l0_2.length c0_2, .slice A0_3 l0_3.length c0_3, .slice A0_4 l0_4.length c0_4]] rfl Try.func79 (impl_copyThree.calls a0_0 a0_1 _ _ l0_2 _ _ l0_3 _ _ l0_4 t380 t381 t382 t385 t388 _ (HM.came HR0_2.out) HC0_2.out (HM.came HR0_3.out) HC0_3.out (HM.came HR0_4.out) HC0_4.out A16.out) ?_; rintro e w17 ⟨v383, v386, v389, rfl, hR⟩; refine ⟨_, rfl, ?_⟩; replace HM := HM.call hR; clear hR) | ((with_reducible refine gN 9 rfl ?_); refine pB 9 71 [.int .i64 0, .int .i64 0, .slice none 0 0, .slice none 0 0, .slice none 0 0] HM rfl ?_; clear HM; intro gb391 w18 HM; obtain ⟨Xo19, ko19, rfl⟩ := HM.rdR 2 rfl; obtain ⟨Xo20, ko20, rfl⟩ := HM.rdR 3 rfl; obtain ⟨Xo21, ko21, rfl⟩ := HM.rdR 4 rfl) | ((with_reducible refine gS 9 rfl ?_); refine pS 5 9 0 [.int .i64 t380, .int .i64 t381, .slice Xo19 t382.length ko19, .slice Xo20 t385.length ko20, .slice Xo21 t388.length ko21] HM rfl rfl ?_; clear HM; intro w22 HM) | ((with_reducible refine gN 28 rfl ?_); refine pL 28 Kd.string 9 ([] : List ByteArray) [] (Reps.none _ _) HM rfl ?_; clear HM; intro v393 w23 HM; replace HM := HM.nm 6 rfl Ny392.out; obtain ⟨_,_,_,_,_,_,_,_,_,_⟩ := bk5 (HM.bx 5 rfl)) | ((with_reducible refine gC 80 rfl ?_); refine pC (some 30) rfl #[.pointer (some ⟨gb391, 0, none⟩), .string a1] rfl Try.func80 (impl_Three_item.calls gb391 t380 t381 (.slice Xo21 t388.length ko21) Xo19 ko19 t382 Xo20 ko20 t385 a1 t395 _ (HM.CR 2 rfl).2.2 (HM.CR 2 rfl).2.1 (HM.CR 3 rfl).2.2 (HM.CR 3 rfl).2.1 (HM.bx 5 rfl) A25.out) ?_; rintro e w26 ⟨rfl, hb⟩; refine ⟨_, rfl, ?_⟩; replace HM := HM.below hb; clear hb; (first | rw [impl_Three_item.ptr_nil (by assumption)] | rw [impl_Three_item.ptr_small (by assumption) (by assumption)] | rw [impl_Three_item.ptr_main (by assumption) (by assumption)] | rw [impl_Three_item.ptr_nil' (by assumption)] | rw [impl_Three_item.ptr_small' (by assumption) (by assumption)] | rw [impl_Three_item.ptr_main' (by assumption) (by assumption)]); replace HM := HM.toQ 2 rfl; replace HM := HM.toQ 3 rfl; replace HM := HM.toQ 4 rfl))
     go_loopg [10] kj5 (fun kq v10 w' => ∃ (x10_2 : List ByteArray) (x392000_2 : Int) (x392001_2 : Int) (x392002_2 : List (S67)) (x392003_2 : List (S67)) (x392004_2 : List Int) (u392002 : Value) (u392003 : Value) (u392004 : Value), Aside0 (impl_Put.l0 kq a1 a2 x10_2 x392000_2 x392001_2 x392002_2 x392003_2 x392004_2 = some (r1, r2, r3, r4, r5, r6, r7)) ∧ Aside0 (kq ≤ kj5) ∧ Mem w [] w' [rowR Kd.string 9 v10 x10_2, row k67 67 u392002 x392002_2, row k67 67 u392003 x392003_2, row (Kd.int .i64) 3 u392004 x392004_2, box 71 gb376 [.int .i64 a0_0, .int .i64 a0_1, .slice A0_2 l0_2.length c0_2, .slice A0_3 l0_3.length c0_3, .slice A0_4 l0_4.length c0_4], box 71 gb377 [.int .i64 0, .int .i64 0, .slice none 0 0, .slice none 0 0, .slice none 0 0], box 71 gb391 [.int .i64 x392000_2, .int .i64 x392001_2, u392002, u392003, u392004]])
     case atStart => exact ⟨(y392), (t380), (t381), (t382), (t385), (t388), (.slice Xo19 t382.length ko19), (.slice Xo20 t385.length ko20), (.slice Xo21 t388.length ko21), H', ⟨Nat.le_refl _⟩, (MD HM).pick [6, 2, 3, 4, 0, 1, 5]⟩
     case round =>
      clear H' HM
      obtain ⟨x10_2, x392000_2, x392001_2, x392002_2, x392003_2, x392004_2, u392002, u392003, u392004, HA, HK2, HM⟩ := hrel
      cases gk with
      | zero => exact absurd HA.out (by simp [impl_Put.l0])
      | succ k2 =>
       have H := HA.out
       clear HA
       simp only [impl_Put.l0] at H
       replace H := IT H; rcases H with ⟨c54, H⟩ | ⟨c54, H⟩
       ·have c54b0 : decide (x392000_2 ≤ (wrap64 ((x392002_2.length : Int) + (x392003_2.length : Int)))) = true := decide_eq_true c54
        clear c54
        replace H := BN H; obtain ⟨⟨t400, t401, t402, t405, t408, t411, t412⟩, A55, H⟩ := H
        replace H := GD H; obtain ⟨c57, H⟩ := H
        have LMc57 := Aside0.mk c57
        clear c57
        have H' := Aside0.mk H
        clear H
        obtain ⟨_,_,_,_,_,_,_,_,_,_⟩ := bk5 (HM.bx 6 rfl)
        obtain ⟨Xo52, ko52, rfl⟩ := HM.rd 1 rfl
        obtain ⟨Xo53, ko53, rfl⟩ := HM.rd 2 rfl
        go_wp2_with (first | ((with_reducible refine gC 81 rfl ?_); refine pC (some 59) rfl #[.pointer (some ⟨gb391, 0, none⟩)] rfl Try.func81 (impl_Three_evict.calls k2 gb391 x392000_2 x392001_2 (.slice Xo52 x392002_2.length ko52) x392002_2 (.slice Xo53 x392003_2.length ko53) x392003_2 u392004 x392004_2 t400 t401 t402 t405 t408 t411 t412 _ _ _ (HM.focus [0, 4, 5] [1, 2, 3, 6]) A55.out) ?_; rintro e w56 ⟨v403, v406, v409, rfl, hR⟩; refine ⟨_, rfl, ?_⟩; replace HM := nzM hR.unfocus; clear hR) | ((with_reducible refine gN 64 rfl ?_); refine pL 64 Kd.string 9 [t411] [.string t411] (Reps.one (show Kd.M Kd.string _ _ _ t411 [.string t411] from rfl) (Reps.none _ _)) HM rfl ?_; clear HM; intro v59 w58 HM; obtain ⟨Xv59, kv59, rfl⟩ := HM.rdR 7 rfl) | ((with_reducible refine gate_builtin (b := .append) (xs := #[.tmp 62, .tmp 64]) rfl ?_); refine pA 0 (.tmp 62) (.tmp 64) 23 9 Kd.string u10 x10_2 [t411] Xv59 ([t411].length) kv59 HM rfl Try.underlying23 info9 rfl (HM.CR 7 rfl).2.2 (by have h_ := LMc57.out; simp only [List.length_singleton]; omega) ?_; clear HM; intro v414 w60 HM))
        go_roundg k2
        case measure => have := HJ5.out; have := HK2.out; omega
        case rel => exact ⟨((x10_2 ++ [t411])), (t400), (t401), (t402), (t405), (t408), (v403), (v406), (v409), H', ⟨by have := HJ5.out; have := HK2.out; omega⟩, (MD HM).pick [0, 3, 4, 5, 1, 2, 6]⟩
       ·have c54b0 : decide (x392000_2 ≤ (wrap64 ((x392002_2.length : Int) + (x392003_2.length : Int)))) = false := decide_eq_false c54
        clear c54
        replace H := BN H; obtain ⟨t416, A61, H⟩ := H
        replace H := BN H; obtain ⟨t418, A67, H⟩ := H
        replace H := IB H
        rcases H with ⟨c70, H⟩ | ⟨c70, H⟩
        ·subst c70
         replace H := BN H; obtain ⟨t419, A72, H⟩ := H
         replace H := GD H; obtain ⟨c77, H⟩ := H
         have LMc77 := Aside0.mk c77
         clear c77
         replace H := BN H; obtain ⟨⟨t425, t426, t427, t430, t433⟩, A84, H⟩ := H
         simp only [Option.some.injEq, Prod.mk.injEq] at H
         obtain ⟨rfl, rfl, rfl, rfl, rfl, rfl, rfl⟩ := H
         obtain ⟨_,_,_,_,_,_,_,_,_,_⟩ := bk5 (HM.bx 6 rfl)
         obtain ⟨Xo52, ko52, rfl⟩ := HM.rd 1 rfl
         obtain ⟨Xo53, ko53, rfl⟩ := HM.rd 2 rfl
         go_wp2_with (first | ((with_reducible refine gC 82 rfl ?_); refine pC (some 67) rfl #[.string a1] rfl Try.func82 (impl_Hash.calls k2 a1 t416 _ A61.out) ?_; rintro e w62 ⟨rfl, hd⟩; refine ⟨_, rfl, ?_⟩; replace HM := HM.drawn hd; clear hd) | ((with_reducible refine gN 14 rfl ?_); refine pB 14 3 [.int .i64 0] HM rfl ?_; clear HM; intro gb417 w63 HM) | ((with_reducible refine gS 14 rfl ?_); refine pS 7 14 0 [.int .i64 t416] HM rfl rfl ?_; clear HM; intro w64 HM; obtain ⟨_,_,_,_,_,_,_,_,_,_⟩ := bk5 (HM.bx 6 rfl); obtain ⟨_,_⟩ := bk1 (HM.bx 7 rfl); obtain ⟨Xo69, ko69, rfl⟩ := HM.rd 3 rfl) | ((with_reducible refine gC 76 rfl ?_); refine pC (some 71) rfl #[.slice Xo69 x392004_2.length ko69, .int .i64 t416] rfl Try.func76 (slices_Contains_int_int.calls k2 _ _ x392004_2 t416 true _ (HM.C 3 rfl).2.2 (HM.C 3 rfl).2.1 A67.out) ?_; rintro e w68 ⟨rfl, hd⟩; refine ⟨_, rfl, ?_⟩; replace HM := HM.drawn hd; clear hd; obtain ⟨_,_,_,_,_,_,_,_,_,_⟩ := bk5 (HM.bx 6 rfl); obtain ⟨P_, hq_, hn_, fin_⟩ := HM.man 3 7 rfl rfl) | ((with_reducible refine gC 83 rfl ?_); refine pC (some 75) rfl #[.slice Xo69 x392004_2.length ko69, .func (.func 84) #[] #[.pointer (some ⟨gb417, 0, none⟩)]] rfl Try.func83 (slices_DeleteFunc_int_int.calls P_ (.slice Xo69 x392004_2.length ko69) x392004_2 84 Try.f84 gb417 t416 t419 (bare _) _ (bare_below _) hq_ (impl_Put.clo84 _ _) (HM.bx 7 rfl) hn_ A72.out) ?_; rintro e w73 ⟨v420, rfl, hQ_, hB_, hK_⟩; refine ⟨_, rfl, ?_⟩; replace HM := fin_ _ _ _ hQ_ hB_ hK_; clear hQ_ hB_ hK_ hq_ hn_ fin_ P_; obtain ⟨Xo74, ko74, rfl⟩ := HM.rd 3 rfl) | ((with_reducible refine gS 76 rfl ?_); refine pS 6 76 4 [.slice Xo74 t419.length ko74] HM rfl rfl ?_; clear HM; intro w75 HM; obtain ⟨_,_,_,_,_,_,_,_,_,_⟩ := bk5 (HM.bx 6 rfl)) | ((with_reducible refine gN 82 rfl ?_); refine pL 82 k67 67 [(⟨a1, a2, 0⟩ : S67)] [.string a1, .string a2, .int .i64 0] (Reps.c3 (show Kd.M k67 _ _ _ (⟨a1, a2, 0⟩ : S67) [.string a1, .string a2, .int .i64 0] from (k67_mkM _ _ _ (⟨a1, a2, 0⟩ : S67))) (Reps.none _ _)) HM rfl ?_; clear HM; intro v79 w78 HM; obtain ⟨Xv79, kv79, rfl⟩ := HM.rdR 8 rfl) | ((with_reducible refine gate_builtin (b := .append) (xs := #[.tmp 78, .tmp 82]) rfl ?_); refine pAq 2 (.tmp 78) (.tmp 82) 68 67 k67 (.slice Xo53 x392003_2.length ko53) x392003_2 [(⟨a1, a2, 0⟩ : S67)] Xv79 ([(⟨a1, a2, 0⟩ : S67)].length) kv79 HM rfl Try.underlying68 info67 rfl (HM.CR 8 rfl).2.2 (by have h_ := LMc77.out; simp only [List.length_singleton]; omega) (by simp) ?_; clear HM; intro v423 w80 HM; obtain ⟨Xo81, ko81, rfl⟩ := HM.rd 2 rfl) | ((with_reducible refine gS 84 rfl ?_); refine pS 6 84 3 [.slice Xo81 (x392003_2 ++ [(⟨a1, a2, 0⟩ : S67)]).length ko81] HM rfl rfl ?_; clear HM; intro w82 HM; obtain ⟨_,_,_,_,_,_,_,_,_,_⟩ := bk5 (HM.bx 6 rfl)) | ((with_reducible refine gC 79 rfl ?_); refine pC (some 94) rfl #[.agg #[.int .i64 x392000_2, .int .i64 x392001_2, .slice Xo52 x392002_2.length ko52, .slice Xo81 (x392003_2 ++ [(⟨a1, a2, 0⟩ : S67)]).length ko81, .slice Xo74 t419.length ko74]] rfl Try.func79 (impl_copyThree.calls x392000_2 x392001_2 _ _ x392002_2 _ _ (x392003_2 ++ [(⟨a1, a2, 0⟩ : S67)]) _ _ t419 t425 t426 t427 t430 t433 _ (HM.C 1 rfl).2.2 (HM.C 1 rfl).2.1 (HM.C 2 rfl).2.2 (HM.C 2 rfl).2.1 (HM.C 3 rfl).2.2 (HM.C 3 rfl).2.1 A84.out) ?_; rintro e w85 ⟨v428, v431, v434, rfl, hR⟩; refine ⟨_, rfl, ?_⟩; replace HM := HM.call hR; clear hR; obtain ⟨Xo86, ko86, rfl⟩ := HM.rdR 9 rfl; obtain ⟨Xo87, ko87, rfl⟩ := HM.rdR 10 rfl; obtain ⟨Xo88, ko88, rfl⟩ := HM.rdR 11 rfl) | ((with_reducible refine gS 6 rfl ?_); refine pS 5 6 0 [.int .i64 t425, .int .i64 t426, .slice Xo86 t427.length ko86, .slice Xo87 t430.length ko87, .slice Xo88 t433.length ko88] HM rfl rfl ?_; clear HM; intro w89 HM))
         refine bodyPost_ret (results_ctt rfl _ _ gb377 71 #[.int .i64 t425, .int .i64 t426, .slice Xo86 t427.length ko86, .slice Xo87 t430.length ko87, .slice Xo88 t433.length ko88] (0, 0) _ rfl (HM.bx 5 rfl) Try.underlying71 rfl (by kernel_rfl)) rfl ?_
         exact ⟨_, _, _, _, ER, (MD HM).pick [9, 10, 11, 0]⟩
        ·subst c70
         replace H := GD H; obtain ⟨c91, H⟩ := H
         have LMc91 := Aside0.mk c91
         clear c91
         replace H := BN H; obtain ⟨⟨t439, t440, t441, t444, t447⟩, A98, H⟩ := H
         simp only [Option.some.injEq, Prod.mk.injEq] at H
         obtain ⟨rfl, rfl, rfl, rfl, rfl, rfl, rfl⟩ := H
         obtain ⟨_,_,_,_,_,_,_,_,_,_⟩ := bk5 (HM.bx 6 rfl)
         obtain ⟨Xo52, ko52, rfl⟩ := HM.rd 1 rfl
         obtain ⟨Xo53, ko53, rfl⟩ := HM.rd 2 rfl
         go_wp2_with (first | ((with_reducible refine gC 82 rfl ?_); refine pC (some 67) rfl #[.string a1] rfl Try.func82 (impl_Hash.calls k2 a1 t416 _ A61.out) ?_; rintro e w62 ⟨rfl, hd⟩; refine ⟨_, rfl, ?_⟩; replace HM := HM.drawn hd; clear hd) | ((with_reducible refine gN 14 rfl ?_); refine pB 14 3 [.int .i64 0] HM rfl ?_; clear HM; intro gb417 w63 HM) | ((with_reducible refine gS 14 rfl ?_); refine pS 7 14 0 [.int .i64 t416] HM rfl rfl ?_; clear HM; intro w64 HM; obtain ⟨_,_,_,_,_,_,_,_,_,_⟩ := bk5 (HM.bx 6 rfl); obtain ⟨_,_⟩ := bk1 (HM.bx 7 rfl); obtain ⟨Xo69, ko69, rfl⟩ := HM.rd 3 rfl) | ((with_reducible refine gC 76 rfl ?_); refine pC (some 71) rfl #[.slice Xo69 x392004_2.length ko69, .int .i64 t416] rfl Try.func76 (slices_Contains_int_int.calls k2 _ _ x392004_2 t416 false _ (HM.C 3 rfl).2.2 (HM.C 3 rfl).2.1 A67.out) ?_; rintro e w68 ⟨rfl, hd⟩; refine ⟨_, rfl, ?_⟩; replace HM := HM.drawn hd; clear hd; obtain ⟨_,_,_,_,_,_,_,_,_,_⟩ := bk5 (HM.bx 6 rfl)) | ((with_reducible refine gN 90 rfl ?_); refine pL 90 k67 67 [(⟨a1, a2, 0⟩ : S67)] [.string a1, .string a2, .int .i64 0] (Reps.c3 (show Kd.M k67 _ _ _ (⟨a1, a2, 0⟩ : S67) [.string a1, .string a2, .int .i64 0] from (k67_mkM _ _ _ (⟨a1, a2, 0⟩ : S67))) (Reps.none _ _)) HM rfl ?_; clear HM; intro v93 w92 HM; obtain ⟨Xv93, kv93, rfl⟩ := HM.rdR 8 rfl) | ((with_reducible refine gate_builtin (b := .append) (xs := #[.tmp 86, .tmp 90]) rfl ?_); refine pAq 1 (.tmp 86) (.tmp 90) 68 67 k67 (.slice Xo52 x392002_2.length ko52) x392002_2 [(⟨a1, a2, 0⟩ : S67)] Xv93 ([(⟨a1, a2, 0⟩ : S67)].length) kv93 HM rfl Try.underlying68 info67 rfl (HM.CR 8 rfl).2.2 (by have h_ := LMc91.out; simp only [List.length_singleton]; omega) (by simp) ?_; clear HM; intro v437 w94 HM; obtain ⟨Xo95, ko95, rfl⟩ := HM.rd 1 rfl) | ((with_reducible refine gS 92 rfl ?_); refine pS 6 92 2 [.slice Xo95 (x392002_2 ++ [(⟨a1, a2, 0⟩ : S67)]).length ko95] HM rfl rfl ?_; clear HM; intro w96 HM; obtain ⟨_,_,_,_,_,_,_,_,_,_⟩ := bk5 (HM.bx 6 rfl)) | ((with_reducible refine gC 79 rfl ?_); refine pC (some 94) rfl #[.agg #[.int .i64 x392000_2, .int .i64 x392001_2, .slice Xo95 (x392002_2 ++ [(⟨a1, a2, 0⟩ : S67)]).length ko95, .slice Xo53 x392003_2.length ko53, .slice Xo69 x392004_2.length ko69]] rfl Try.func79 (impl_copyThree.calls x392000_2 x392001_2 _ _ (x392002_2 ++ [(⟨a1, a2, 0⟩ : S67)]) _ _ x392003_2 _ _ x392004_2 t439 t440 t441 t444 t447 _ (HM.C 1 rfl).2.2 (HM.C 1 rfl).2.1 (HM.C 2 rfl).2.2 (HM.C 2 rfl).2.1 (HM.C 3 rfl).2.2 (HM.C 3 rfl).2.1 A98.out) ?_; rintro e w99 ⟨v442, v445, v448, rfl, hR⟩; refine ⟨_, rfl, ?_⟩; replace HM := HM.call hR; clear hR; obtain ⟨Xo100, ko100, rfl⟩ := HM.rdR 9 rfl; obtain ⟨Xo101, ko101, rfl⟩ := HM.rdR 10 rfl; obtain ⟨Xo102, ko102, rfl⟩ := HM.rdR 11 rfl) | ((with_reducible refine gS 6 rfl ?_); refine pS 5 6 0 [.int .i64 t439, .int .i64 t440, .slice Xo100 t441.length ko100, .slice Xo101 t444.length ko101, .slice Xo102 t447.length ko102] HM rfl rfl ?_; clear HM; intro w103 HM))
         refine bodyPost_ret (results_ctt rfl _ _ gb377 71 #[.int .i64 t439, .int .i64 t440, .slice Xo100 t441.length ko100, .slice Xo101 t444.length ko101, .slice Xo102 t447.length ko102] (0, 0) _ rfl (HM.bx 5 rfl) Try.underlying71 rfl (by kernel_rfl)) rfl ?_
         exact ⟨_, _, _, _, ER, (MD HM).pick [9, 10, 11, 0]⟩
def impl_copyRow.f (a0_0 : Int) (a0_1 : Int) (l0_2 : List (S67)) : Option (Int × Int × (List (S67))) := (impl_copyItems.f l0_2).bind fun t456 => (some (a0_0, a0_1, t456))
def impl_copyRow.T1 : Bool × List (List Nat × List Nat) := (true, [([], []), ([0], [0]), ([], []), ([2], [2]), ([], []), ([4], [4]), ([5], [5]), ([1, 3, 6], [1, 3, 6]), ([7, 6, 0, 1, 2, 3, 4, 5, 6, 7], [7])])
def impl_copyRow.B1 : List Nat := [0, 1, 0, 4, 0, 16, 48, 127, 255]
theorem impl_copyRow.tab1 : rtab .any (opsOf Try.f85 1) = impl_copyRow.T1 := by kernel_rfl
theorem impl_copyRow.bits1 : waitsOk impl_copyRow.T1.2 impl_copyRow.B1 = true := by kernel_rfl
theorem impl_copyRow.calls (a0_0 : Int) (a0_1 : Int) (A0_2 : Option Addr) (c0_2 : Nat) (l0_2 : List (S67)) (r1 : Int) (r2 : Int) (r3 : List (S67)) (w : World) (hr0_2 : Kd.C k67 w A0_2 l0_2.length l0_2) (hc0_2 : l0_2.length ≤ c0_2) (h : impl_copyRow.f a0_0 a0_1 l0_2 = some (r1, r2, r3)) :
  Calls Try.prog 85 #[.agg #[.int .i64 a0_0, .int .i64 a0_1, .slice A0_2 l0_2.length c0_2]] w fun e w' => ∃ v2_ : Value, e = .returned (.agg #[.int .i64 r1, .int .i64 r2, v2_]) ∧ Mem w [] w' [rowR k67 67 v2_ r3] := by
 have hu75 := Try.underlying75
 have HR0_2 := Aside0.mk hr0_2
 have HC0_2 := Aside0.mk hc0_2
 clear hr0_2 hc0_2
 have HM := Mem.nil w
 have H := h
 clear h
 unfold impl_copyRow.f at H
 go_enter Try.func85, Try.ntmps85
 try go_wp2_with (first | ((with_reducible refine gN 1 rfl ?_); refine pB 1 75 [.int .i64 a0_0, .int .i64 a0_1, .slice A0_2 l0_2.length c0_2] HM rfl ?_; clear HM; intro gb454 w2 HM) | ((with_reducible refine gN 2 rfl ?_); refine pB 2 75 [.int .i64 0, .int .i64 0, .slice none 0 0] HM rfl ?_; clear HM; intro gb455 w3 HM))
 replace H := BN H; obtain ⟨t456, A4, H⟩ := H
 refine RGN 9 [0, 1, 2, 3, 4, 5, 6, 7, 8] (fun a0 b a w' => ∃ (v457 : Value), a = putSel a0 b [(0, 3, .pointer (some ⟨gb454, 0, none⟩)), (1, 4, .int .i64 a0_0), (2, 5, .pointer (some ⟨gb454, 1, none⟩)), (3, 6, .int .i64 a0_1), (4, 7, .pointer (some ⟨gb454, 2, none⟩)), (5, 8, .slice A0_2 l0_2.length c0_2), (6, 9, v457), (7, 10, .agg #[.int .i64 a0_0, .int .i64 a0_1, v457])] ∧ Mem w [] w' [box 75 gb454 [.int .i64 a0_0, .int .i64 a0_1, .slice A0_2 l0_2.length c0_2], sel (b 8) (box 75 gb455 [.int .i64 a0_0, .int .i64 a0_1, v457]) (box 75 gb455 [.int .i64 0, .int .i64 0, .slice none 0 0]), sel (b 6) (rowR k67 67 v457 t456) (emp)]) impl_copyRow.tab1 impl_copyRow.bits1 ?_ ?_ ?_
 ·exact ⟨.bool false, PS0' rfl _, (HM.drew.ems 1).pick [0, 1, 2]⟩
 ·clear HM
  refine SZ ?_ ?_
  ·rintro b a w ⟨v457, ha, HM⟩ hb hon hoff K hK
   replace ha := Aside0.mk ha
   have e1 := PG ha 1
   exact VL (.pointer (some ⟨gb454, 0, none⟩)) (hK.out _ _ ⟨v457, PUT ha 0 hb, HM⟩)
  refine SZ ?_ ?_
  ·rintro b a w ⟨v457, ha, HM⟩ hb hon hoff K hK
   replace ha := Aside0.mk ha
   obtain ⟨_,_,_,_,_,_⟩ := bk3 (HM.bx 0 rfl)
   have e3 := PE ha 0 hon
   exact VL (.int .i64 a0_0) (hK.out _ _ ⟨v457, PUT ha 1 hb, HM⟩)
  refine SZ ?_ ?_
  ·rintro b a w ⟨v457, ha, HM⟩ hb hon hoff K hK
   replace ha := Aside0.mk ha
   have e1 := PG ha 1
   exact VL (.pointer (some ⟨gb454, 1, none⟩)) (hK.out _ _ ⟨v457, PUT ha 2 hb, HM⟩)
  refine SZ ?_ ?_
  ·rintro b a w ⟨v457, ha, HM⟩ hb hon hoff K hK
   replace ha := Aside0.mk ha
   obtain ⟨_,_,_,_,_,_⟩ := bk3 (HM.bx 0 rfl)
   have e5 := PE ha 2 hon
   exact VL (.int .i64 a0_1) (hK.out _ _ ⟨v457, PUT ha 3 hb, HM⟩)
  refine SZ ?_ ?_
  ·rintro b a w ⟨v457, ha, HM⟩ hb hon hoff K hK
   replace ha := Aside0.mk ha
   have e1 := PG ha 1
   exact VL (.pointer (some ⟨gb454, 2, none⟩)) (hK.out _ _ ⟨v457, PUT ha 4 hb, HM⟩)
  refine SZ ?_ ?_
  ·rintro b a w ⟨v457, ha, HM⟩ hb hon hoff K hK
   replace ha := Aside0.mk ha
   obtain ⟨_,_,_,_,_,_⟩ := bk3 (HM.bx 0 rfl)
   have e7 := PE ha 4 hon
   exact VL (.slice A0_2 l0_2.length c0_2) (hK.out _ _ ⟨v457, PUT ha 5 hb, HM⟩)
  refine SZ ?_ ?_
  ·rintro b a w ⟨v457, ha, HM⟩ hb hon hoff K hK
   replace ha := Aside0.mk ha
   have e8 := PE ha 5 hon
   refine ST (eC (some 9) rfl #[.slice A0_2 l0_2.length c0_2] rfl Try.func77 (impl_copyItems.calls _ _ l0_2 t456 _ (HM.came HR0_2.out) HC0_2.out A4.out) ?_ (hargs := by (simp only [List.map_toArray, List.map_cons, List.map_nil, evc, eval_of e8]) <;> rfl))
   rintro e w15 ⟨v457, rfl, hR⟩
   refine ⟨_, rfl, ?_⟩
   replace HM := HM.call hR
   clear hR
   exact hK.out _ _ ⟨v457, PUT (PCH ha 7 (hoff 7 rfl)) 6 hb, ((HM.sF 1 rfl (hoff 8 rfl)).iF 1 rfl (hoff 8 rfl)).pick [0, 1, 3]⟩
  refine SZ ?_ ?_
  ·rintro b a w ⟨v457, ha, HM⟩ hb hon hoff K hK
   replace ha := Aside0.mk ha
   have HZ := HM
   replace HM := HM.sT 2 rfl (hon 6 rfl)
   obtain ⟨Xo16, ko16, rfl⟩ := HM.rdR 2 rfl
   have e4 := PE ha 1 hon
   have e6 := PE ha 3 hon
   have e9 := PE ha 6 hon
   exact VL (.agg #[.int .i64 a0_0, .int .i64 a0_1, .slice Xo16 t456.length ko16]) (hK.out _ _ ⟨.slice Xo16 t456.length ko16, PUT ha 7 hb, HZ⟩)
  refine SZ ?_ ?_
  ·rintro b a w ⟨v457, ha, HM⟩ hb hon hoff K hK
   replace ha := Aside0.mk ha
   replace HM := HM.sF 1 rfl hb
   replace HM := HM.sT 2 rfl (hon 6 rfl)
   obtain ⟨Xo17, ko17, rfl⟩ := HM.rdR 2 rfl
   have e2 := PG ha 2
   have e10 := PE ha 7 hon
   refine ST (eS 1 2 0 [.int .i64 a0_0, .int .i64 a0_1, .slice Xo17 t456.length ko17] HM rfl rfl ?_ (hp := (eval_of e2)) (hx := (by rw [eval_of e10]; rfl)))
   clear HM
   intro w18 HM
   exact hK.out _ _ ⟨.slice Xo17 t456.length ko17, PUS ha, (HM.iT 2 rfl (hon 6 rfl)).pick [0, 1, 2]⟩
  exact steps_nil
 rintro _ w19 ⟨v457, rfl, HM⟩
 replace HM := HM.sT 1 rfl rfl
 replace HM := HM.sT 2 rfl rfl
 simp only [putSel, if_true, Act.put, List.setIfInBounds_toArray, List.set_cons_zero, List.set_cons_succ, gt_iff_lt, ge_iff_le]
 simp only [Option.some.injEq, Prod.mk.injEq] at H
 obtain ⟨rfl, rfl, rfl⟩ := H
 go_wp2
 refine bodyPost_ret (results_cell_row rfl _ _ gb455 75 #[.int .i64 a0_0, .int .i64 a0_1, v457] (0, 0) _ rfl (HM.bx 1 rfl) Try.underlying75 rfl (by kernel_rfl)) rfl ?_
 exact ⟨_, ER, (MD HM).pick [2]⟩
end Go.Proofs.Ytlokjgngjgbpmaa.G

namespace Go.Proofs.Ytlokjgngjgbpmaa.G
open Go.RowKit Go.Proofs.YtlokjgngjgbpmaaW.PrintWords Go.Proofs.YtlokjgngjgbpmaaW.PrintLast Go.Proofs.YtlokjgngjgbpmaaW.PrintMore Go.Proofs.Ytlokjgngjgbpmaa.Sh
attribute [local go_sem] max2_int min2_int max_two min_two max_three min_three max_four min_four
set_option linter.unusedVariables false
set_option linter.unusedSimpArgs false
open Go.Proofs.Ytlokjgngjgbpmaa.Man
def slices_Delete_impl_Item_impl_Item.f (l0 : List S67) (a1 : Int) (a2 : Int) : Option (List S67) := if 0 ≤ a1 ∧ a1 < (l0.length : Int) ∧ a2 = a1 + 1 then some (l0.eraseIdx a1.toNat) else none
set_option maxHeartbeats 4000000 in
set_option maxRecDepth 100000 in
theorem slices_Delete_impl_Item_impl_Item.calls (P0_ : Nat → Prop) (u9000_ : Value) (l0 : List S67) (a1 : Int) (a2 : Int) (r : List S67) (w0 w : World) (hB : Below w0.heap.size w0 w) (ho0 : Kd.R k67 67 w w0.heap.size P0_ u9000_ l0) (h : slices_Delete_impl_Item_impl_Item.f l0 a1 a2 = some r) :
  Calls Try.prog 103 #[u9000_, .int .i64 a1, .int .i64 a2] w fun e w' => ∃ v0_ : Value, e = .returned v0_ ∧ Kd.R k67 67 w' w0.heap.size (fun k_ => (P0_ k_ ∨ w.heap.size ≤ k_)) v0_ r ∧ Below w0.heap.size w0 w' ∧ Kept w w' (fun k_ => P0_ k_) := by
 unfold slices_Delete_impl_Item_impl_Item.f at h
 by_cases c : 0 ≤ a1 ∧ a1 < (l0.length : Int) ∧ a2 = a1 + 1
 ·rw [if_pos c] at h
  obtain rfl := Option.some.inj h
  obtain ⟨c0, c1, rfl⟩ := c
  clear h
  obtain ⟨n, rfl⟩ := Int.eq_ofNat_of_zero_le c0
  have hn : n < l0.length := by omega
  obtain ⟨g, cap, rfl, gb, gl, cl, HG⟩ := Kd.R_form ho0 (by omega)
  obtain ⟨_, hlc, hC⟩ := Kd.R_reads' ho0
  have hL : l0.length ≤ 9223372036854775807 := hC.2.1
  clear hC
  have e1 : IntKind.i64.wrap ((n : Int) + 1) = (n : Int) + 1 := by exact (i64_w _).trans (by unfold wrap64; omega)
  have HO := Aside0.mk ho0
  have HBW := Aside0.mk hB
  have HGB := Aside0.mk gb
  have HGL := Aside0.mk gl
  have HN := Aside0.mk hn
  have b1 : (n : Int) + 1 ≤ (l0.length : Int) := by omega
  have b2 : (l0.length : Int) ≤ (cap : Int) := by omega
  have b3 : (n : Int) ≤ (l0.length : Int) := by omega
  have b4 : (n : Int) ≤ (cap : Int) := by omega
  have b5 : (n : Int) + 1 ≤ (cap : Int) := by omega
  have b6 : (n : Int) ≤ (n : Int) + 1 := by omega
  have b7 : (0 : Int) ≤ (n : Int) + 1 := by omega
  have e2 : ((n : Int) == (n : Int) + 1) = false := by rw [beq_eq_false_iff_ne]; omega
  by_cases hcn : cap = n + 1
  ·subst hcn
   have HS := Aside0.mk (show w0.heap.size ≤ w.drew.heap.size from hB.size)
   clear hn ho0 hB gb gl HG hL hlc c1 e1
   go_enter Try.func103, Try.ntmps103
   go_wp2
   go_region_law (refine Kd.R_delete_step k67 (w0 := w0) w0.heap.size rfl (.tmp 22) (.tmp 25) 68 67 rfl Try.underlying68 (by kernel_rfl) (by rfl) (by rfl) ((if_pos rfl).symm) (by rfl) (Kd.R_drew HO.out) HN.out (below_drew1 HBW.out) HS.out ?_; intro w1 hr hb hg)
   have HR := Aside0.mk hr
   have HB2 := Aside0.mk hb
   have HG2 := Aside0.mk hg
   clear hr hb hg
   obtain ⟨w2, hrun, hr2, hg2⟩ := R_clear_run (P := Try.prog) k67 w0.heap.size 68 0 67 (.agg #[(.string ⟨#[]⟩), (.string ⟨#[]⟩), (.int .i64 0)]) Try.underlying68 Try.zeroValue67 rfl (by decide) HR.out (m := l0.length - (l0.length - 1)) (by have := HN.out; omega) (by have := HN.out; omega) ((n + 1) - (l0.length - 1))
   have HR2 := Aside0.mk hr2
   have HG3 := Aside0.mk hg2
   clear hr2 hg2
   (try rw [show (l0.length - 1) * Kd.sz k67 = l0.length - 1 from Nat.mul_one _] at hrun)
   change Sem.run _ (Builtin.clear_ #[68] 0 #[.slice (some ⟨g, (l0.length - 1) * 3, none⟩) (l0.length - (l0.length - 1)) ((n + 1) - (l0.length - 1))]) w1 = _ at hrun
   go_wp2
   go_ret
   have hgw : w.grownBy w2 (some g) := World.grownBy.trans (World.grownBy.trans (show w.grownBy w.drew (some g) from ⟨rfl, rfl, rfl, Nat.le_refl _, fun _ _ _ => rfl⟩) HG2.out) HG3.out
   refine ⟨_, rfl, Kd.R_mono HR2.out (fun _ h => Or.inl h), HB2.out.grown HG3.out ?_ (fun k hk => by injection hk with hk; subst hk; exact HGB.out), Kept.of_grown hgw (Kept.refl _ _) (fun k hk => by injection hk with hk; subst hk; exact .inl (HO.out.1 _ rfl))⟩
   exact HB2.out.size
  ·have hcn' : (cap == n + 1) = false := by rw [beq_eq_false_iff_ne]; exact hcn
   have HA := Aside0.mk (show some ⟨g, (n + 1) * 3, none⟩ = (if cap = n + 1 then some (⟨g, 0, none⟩ : Addr) else (some (⟨g, 0, none⟩ : Addr)).map (·.add ((n + 1) * k67.sz))) from by rw [if_neg hcn, Option.map_some, add_plain]; first | rfl | rw [show (n + 1) * Kd.sz _ = n + 1 from Nat.mul_one _])
   have HS := Aside0.mk (show w0.heap.size ≤ w.drew.heap.size from hB.size)
   clear hn ho0 hB gb gl HG hL hlc c1 e1
   go_enter Try.func103, Try.ntmps103
   go_wp2
   go_region_law (refine Kd.R_delete_step k67 (w0 := w0) w0.heap.size rfl (.tmp 22) (.tmp 25) 68 67 rfl Try.underlying68 (by kernel_rfl) (by rfl) (by rfl) HA.out (by rfl) (Kd.R_drew HO.out) HN.out (below_drew1 HBW.out) HS.out ?_; intro w1 hr hb hg)
   have HR := Aside0.mk hr
   have HB2 := Aside0.mk hb
   have HG2 := Aside0.mk hg
   clear hr hb hg
   obtain ⟨w2, hrun, hr2, hg2⟩ := R_clear_run (P := Try.prog) k67 w0.heap.size 68 0 67 (.agg #[(.string ⟨#[]⟩), (.string ⟨#[]⟩), (.int .i64 0)]) Try.underlying68 Try.zeroValue67 rfl (by decide) HR.out (m := l0.length - (l0.length - 1)) (by have := HN.out; omega) (by have := HN.out; omega) (cap - (l0.length - 1))
   have HR2 := Aside0.mk hr2
   have HG3 := Aside0.mk hg2
   clear hr2 hg2
   (try rw [show (l0.length - 1) * Kd.sz k67 = l0.length - 1 from Nat.mul_one _] at hrun)
   change Sem.run _ (Builtin.clear_ #[68] 0 #[.slice (some ⟨g, (l0.length - 1) * 3, none⟩) (l0.length - (l0.length - 1)) (cap - (l0.length - 1))]) w1 = _ at hrun
   go_wp2
   go_ret
   have hgw : w.grownBy w2 (some g) := World.grownBy.trans (World.grownBy.trans (show w.grownBy w.drew (some g) from ⟨rfl, rfl, rfl, Nat.le_refl _, fun _ _ _ => rfl⟩) HG2.out) HG3.out
   refine ⟨_, rfl, Kd.R_mono HR2.out (fun _ h => Or.inl h), HB2.out.grown HG3.out ?_ (fun k hk => by injection hk with hk; subst hk; exact HGB.out), Kept.of_grown hgw (Kept.refl _ _) (fun k hk => by injection hk with hk; subst hk; exact .inl (HO.out.1 _ rfl))⟩
   exact HB2.out.size
 ·rw [if_neg c] at h; cases h
end Go.Proofs.Ytlokjgngjgbpmaa.G

namespace Go.Proofs.Ytlokjgngjgbpmaa.G
open Go.RowKit Go.Proofs.YtlokjgngjgbpmaaW.PrintWords Go.Proofs.YtlokjgngjgbpmaaW.PrintLast Go.Proofs.YtlokjgngjgbpmaaW.PrintMore Go.Proofs.Ytlokjgngjgbpmaa.Sh
attribute [local go_sem] max2_int min2_int max_two min_two max_three min_three max_four min_four
set_option linter.unusedVariables false
set_option linter.unusedSimpArgs false
open Go.Proofs.Ytlokjgngjgbpmaa.Mm
def impl_Row_asked.f (a0_0 : Int) (a0_1 : Int) (l0_2 : List (S67)) (a1 : Int) : Option (Int × Int × (List (S67))) := if a0_0 = 2 then (if 0 ≤ a1 then (if a1 < (l0_2.length : Int) then ((slices_Delete_impl_Item_impl_Item.f l0_2 a1 (wrap64 (a1 + 1))).bind fun t462 => (if t462.length < 3518437208883 then (some (a0_0, a0_1, (t462 ++ [(⟨(rd_T67 l0_2 a1).f0, (rd_T67 l0_2 a1).f1, (rd_T67 l0_2 a1).f2⟩ : S67)]))) else (none))) else (none)) else (none)) else (if a0_0 = 3 then (if 0 ≤ a1 then (if a1 < (l0_2.length : Int) then (some (a0_0, a0_1, (l0_2.set (a1 : Int).toNat (⟨(rd_T67 l0_2 a1).f0, (rd_T67 l0_2 a1).f1, 1⟩ : S67)))) else (none)) else (none)) else (some (a0_0, a0_1, l0_2)))
def impl_Row_asked.T3 : Bool × List (List Nat × List Nat) := (true, [([], []), ([], []), ([1], [1]), ([2], [2]), ([3], [3]), ([], []), ([], []), ([6], [6]), ([4, 5, 7], [4, 5, 7]), ([], []), ([9], [9]), ([8, 10, 8], [8, 10]), ([0, 0, 1, 2, 3, 4, 5, 6, 7, 8, 9, 10, 11], [0]), ([12, 0, 1, 2, 3, 4, 5, 6, 7, 8, 9, 10, 11], [12]), ([13, 11, 11, 0, 1, 2, 3, 4, 5, 6, 7, 8, 9, 10, 11], [11, 13])])
def impl_Row_asked.B3 : List Nat := [0, 0, 2, 6, 14, 0, 0, 64, 254, 0, 512, 2046, 4095, 8191, 16383]
theorem impl_Row_asked.tab3 : rtab .any (opsOf Try.f87 3) = impl_Row_asked.T3 := by kernel_rfl
theorem impl_Row_asked.bits3 : waitsOk impl_Row_asked.T3.2 impl_Row_asked.B3 = true := by kernel_rfl
theorem impl_Row_asked.calls (g : Nat) (a0_0 : Int) (a0_1 : Int) (u9000_ : Value) (l0_2 : List (S67)) (a1 : Int) (r1 : Int) (r2 : Int) (r3 : List (S67)) (w0 w : World) (F : List SP)  (hM : Mem w0 F w [rowR k67 67 u9000_ l0_2, box 75 g [.int .i64 a0_0, .int .i64 a0_1, u9000_]]) (h : impl_Row_asked.f a0_0 a0_1 l0_2 a1 = some (r1, r2, r3)) :
  Calls Try.prog 87 #[.pointer (some ⟨g, 0, none⟩), .int .i64 a1] w fun e w' => ∃ v2_ : Value, e = .returned (.tuple #[]) ∧ Mem w0 F w' [rowR k67 67 v2_ r3, box 75 g [.int .i64 r1, .int .i64 r2, v2_]] := by
 have hu67 := Try.underlying67
 have HM := hM
 clear hM
 have H := h
 clear h
 unfold impl_Row_asked.f at H
 go_enter Try.func87, Try.ntmps87
 obtain ⟨_,_,_,_,_,_⟩ := bk3 (HM.bx 1 rfl)
 go_upto_if 9 with (fail)
 replace H := IT H; rcases H with ⟨c4, H⟩ | ⟨c4, H⟩
 ·obtain ⟨c4b0, c4b1⟩ := BE c4
  clear c4
  first|rw [c4b0]|(simp only [i64_w, i32_w]; rw [c4b0])|skip
  replace H := GD H; obtain ⟨c5, H⟩ := H
  have c5b0 := decide_eq_true c5
  clear c5
  replace H := GD H; obtain ⟨c6, H⟩ := H
  have c6b0 := decide_eq_true c6
  clear c6
  obtain ⟨Xo7, ko7, rfl⟩ := HM.rdR 0 rfl
  have p460 : 0 ≤ (a1 : Int) := of_decide_eq_true AS
  have q460 : (a1 : Int) < (l0_2.length : Int) := of_decide_eq_true AS
  obtain ⟨ad460, e460, hx460_0, hx460_1, hx460_2⟩ := at_T67 (HM.CR 0 rfl).2.2 a1 p460 q460
  cases e460
  replace p460 := eq_true p460
  replace q460 := eq_true q460
  try go_wp2_with (first | ((with_reducible refine gN 4 rfl ?_); refine pB 4 67 [.string (⟨#[]⟩ : ByteArray), .string (⟨#[]⟩ : ByteArray), .int .i64 0] HM rfl ?_; clear HM; intro gb461 w8 HM) | ((with_reducible refine gS 4 rfl ?_); refine pS 2 4 0 [.string ((rd_T67 l0_2 a1).f0), .string ((rd_T67 l0_2 a1).f1), .int .i64 ((rd_T67 l0_2 a1).f2)] HM rfl rfl ?_; clear HM; intro w9 HM))
  replace H := BN H; obtain ⟨t462, A10, H⟩ := H
  replace H := GD H; obtain ⟨c11, H⟩ := H
  have LMc11 := Aside0.mk c11
  clear c11
  refine RGN 15 [0, 1, 2, 3, 4, 5, 6, 7, 8, 9, 10, 11, 12, 13, 14] (fun a0 b a w' => ∃ (v463 : Value) (v16 : Value) (v466 : Value), a = putSel a0 b [(0, 18, .pointer (some ⟨g, 0, none⟩)), (1, 19, .pointer (some ⟨g, 0, none⟩)), (2, 20, .pointer (some ⟨g, 0, none⟩)), (3, 21, .pointer (some ⟨g, 2, none⟩)), (4, 22, .slice (some ad460) l0_2.length ko7), (5, 23, .int .i64 a1), (6, 24, .int .i64 a1), (7, 25, .int .i64 (wrap64 (a1 + 1))), (8, 26, v463), (9, 27, .agg #[.string ((rd_T67 l0_2 a1).f0), .string ((rd_T67 l0_2 a1).f1), .int .i64 ((rd_T67 l0_2 a1).f2)]), (10, 28, v16), (11, 29, v466), (12, 30, .pointer (some ⟨g, 0, none⟩)), (13, 31, .pointer (some ⟨g, 2, none⟩))] ∧ Mem w0 F w' [sel (b 11) (rowR k67 67 v466 (t462 ++ [(⟨(rd_T67 l0_2 a1).f0, (rd_T67 l0_2 a1).f1, (rd_T67 l0_2 a1).f2⟩ : S67)])) (sel (b 8) (rowR k67 67 v463 t462) (rowR k67 67 (.slice (some ad460) l0_2.length ko7) l0_2)), sel (b 14) (box 75 g [.int .i64 a0_0, .int .i64 a0_1, v466]) (box 75 g [.int .i64 a0_0, .int .i64 a0_1, .slice (some ad460) l0_2.length ko7]), box 67 gb461 [.string ((rd_T67 l0_2 a1).f0), .string ((rd_T67 l0_2 a1).f1), .int .i64 ((rd_T67 l0_2 a1).f2)], sel (b 10) (rowR k67 67 v16 [(⟨(rd_T67 l0_2 a1).f0, (rd_T67 l0_2 a1).f1, (rd_T67 l0_2 a1).f2⟩ : S67)]) (emp)]) impl_Row_asked.tab3 impl_Row_asked.bits3 ?_ ?_ ?_
  ·exact ⟨.bool false, .bool false, .bool false, PS0' rfl _, (HM.drew.ems 1).pick [0, 1, 2, 3]⟩
  ·clear HM
   refine SZ ?_ ?_
   ·rintro b a w ⟨v463, v16, v466, ha, HM⟩ hb hon hoff K hK
    replace ha := Aside0.mk ha
    have e0 := PG ha 0
    exact VL (.pointer (some ⟨g, 0, none⟩)) (hK.out _ _ ⟨v463, v16, v466, PUT ha 0 hb, HM⟩)
   refine SZ ?_ ?_
   ·rintro b a w ⟨v463, v16, v466, ha, HM⟩ hb hon hoff K hK
    replace ha := Aside0.mk ha
    have e0 := PG ha 0
    exact VL (.pointer (some ⟨g, 0, none⟩)) (hK.out _ _ ⟨v463, v16, v466, PUT ha 1 hb, HM⟩)
   refine SZ ?_ ?_
   ·rintro b a w ⟨v463, v16, v466, ha, HM⟩ hb hon hoff K hK
    replace ha := Aside0.mk ha
    have e19 := PE ha 1 hon
    exact VL (.pointer (some ⟨g, 0, none⟩)) (hK.out _ _ ⟨v463, v16, v466, PUT ha 2 hb, HM⟩)
   refine SZ ?_ ?_
   ·rintro b a w ⟨v463, v16, v466, ha, HM⟩ hb hon hoff K hK
    replace ha := Aside0.mk ha
    have e20 := PE ha 2 hon
    exact VL (.pointer (some ⟨g, 2, none⟩)) (hK.out _ _ ⟨v463, v16, v466, PUT ha 3 hb, HM⟩)
   refine SZ ?_ ?_
   ·rintro b a w ⟨v463, v16, v466, ha, HM⟩ hb hon hoff K hK
    replace ha := Aside0.mk ha
    have HZ := HM
    replace HM := HM.sF 1 rfl (hoff 14 rfl)
    obtain ⟨_,_,_,_,_,_⟩ := bk3 (HM.bx 1 rfl)
    have e21 := PE ha 3 hon
    exact VL (.slice (some ad460) l0_2.length ko7) (hK.out _ _ ⟨v463, v16, v466, PUT ha 4 hb, HZ⟩)
   refine SZ ?_ ?_
   ·rintro b a w ⟨v463, v16, v466, ha, HM⟩ hb hon hoff K hK
    replace ha := Aside0.mk ha
    have e1 := PG ha 1
    exact VL (.int .i64 a1) (hK.out _ _ ⟨v463, v16, v466, PUT ha 5 hb, HM⟩)
   refine SZ ?_ ?_
   ·rintro b a w ⟨v463, v16, v466, ha, HM⟩ hb hon hoff K hK
    replace ha := Aside0.mk ha
    have e1 := PG ha 1
    exact VL (.int .i64 a1) (hK.out _ _ ⟨v463, v16, v466, PUT ha 6 hb, HM⟩)
   refine SZ ?_ ?_
   ·rintro b a w ⟨v463, v16, v466, ha, HM⟩ hb hon hoff K hK
    replace ha := Aside0.mk ha
    have e24 := PE ha 6 hon
    exact VL (.int .i64 (wrap64 (a1 + 1))) (hK.out _ _ ⟨v463, v16, v466, PUT ha 7 hb, HM⟩)
   refine SZ ?_ ?_
   ·rintro b a w ⟨v463, v16, v466, ha, HM⟩ hb hon hoff K hK
    replace ha := Aside0.mk ha
    replace HM := (HM.sF 0 rfl (hoff 11 rfl)).sF 0 rfl hb
    obtain ⟨P_, hq_, fin_⟩ := HM.man1R 0 rfl
    have e22 := PE ha 4 hon
    have e23 := PE ha 5 hon
    have e25 := PE ha 7 hon
    refine ST (eC (some 26) rfl #[.slice (some ad460) l0_2.length ko7, .int .i64 a1, .int .i64 (wrap64 (a1 + 1))] rfl Try.func103 (slices_Delete_impl_Item_impl_Item.calls P_ (.slice (some ad460) l0_2.length ko7) l0_2 a1 (wrap64 (a1 + 1)) t462 (bare _) _ (bare_below _) hq_ A10.out) ?_ (hargs := by (simp only [List.map_toArray, List.map_cons, List.map_nil, evc, eval_of e22, eval_of e23, eval_of e25]) <;> rfl))
    rintro e w22 ⟨v463, rfl, hQ_, hB_, hK_⟩
    refine ⟨_, rfl, ?_⟩
    replace HM := fin_ _ _ _ hQ_ hB_ hK_
    clear hQ_ hB_ hK_ hq_ fin_ P_
    exact hK.out _ _ ⟨v463, v16, v466, PUT ha 8 hb, (HM.iF 0 rfl (hoff 11 rfl)).pick [0, 1, 2, 3]⟩
   refine SZ ?_ ?_
   ·rintro b a w ⟨v463, v16, v466, ha, HM⟩ hb hon hoff K hK
    replace ha := Aside0.mk ha
    obtain ⟨_,_,_,_,_,_⟩ := bk3 (HM.bx 2 rfl)
    have e4 := PG ha 4
    exact VL (.agg #[.string ((rd_T67 l0_2 a1).f0), .string ((rd_T67 l0_2 a1).f1), .int .i64 ((rd_T67 l0_2 a1).f2)]) (hK.out _ _ ⟨v463, v16, v466, PUT ha 9 hb, HM⟩)
   refine SZ ?_ ?_
   ·rintro b a w ⟨v463, v16, v466, ha, HM⟩ hb hon hoff K hK
    replace ha := Aside0.mk ha
    have e27 := PE ha 9 hon
    refine ST (eL 28 k67 67 [(⟨(rd_T67 l0_2 a1).f0, (rd_T67 l0_2 a1).f1, (rd_T67 l0_2 a1).f2⟩ : S67)] [.string ((rd_T67 l0_2 a1).f0), .string ((rd_T67 l0_2 a1).f1), .int .i64 ((rd_T67 l0_2 a1).f2)] (Reps.c3 (show Kd.M k67 _ _ _ (⟨(rd_T67 l0_2 a1).f0, (rd_T67 l0_2 a1).f1, (rd_T67 l0_2 a1).f2⟩ : S67) [.string ((rd_T67 l0_2 a1).f0), .string ((rd_T67 l0_2 a1).f1), .int .i64 ((rd_T67 l0_2 a1).f2)] from (k67_mkM _ _ _ (⟨(rd_T67 l0_2 a1).f0, (rd_T67 l0_2 a1).f1, (rd_T67 l0_2 a1).f2⟩ : S67))) (Reps.none _ _)) HM rfl ?_)
    clear HM
    intro v16 w24 HM
    exact hK.out _ _ ⟨v463, v16, v466, PUT ha 10 hb, (HM).pick [0, 1, 2, 4]⟩
   refine SZ ?_ ?_
   ·rintro b a w ⟨v463, v16, v466, ha, HM⟩ hb hon hoff K hK
    replace ha := Aside0.mk ha
    replace HM := (HM.sF 0 rfl hb).sT 0 rfl (hon 8 rfl)
    replace HM := HM.sT 3 rfl (hon 10 rfl)
    obtain ⟨Xo25, ko25, rfl⟩ := HM.rdR 3 rfl
    have e26 := PE ha 8 hon
    have e28 := PE ha 10 hon
    refine ST (eA 0 (.tmp 26) (.tmp 28) 68 67 k67 v463 t462 [(⟨(rd_T67 l0_2 a1).f0, (rd_T67 l0_2 a1).f1, (rd_T67 l0_2 a1).f2⟩ : S67)] Xo25 ([(⟨(rd_T67 l0_2 a1).f0, (rd_T67 l0_2 a1).f1, (rd_T67 l0_2 a1).f2⟩ : S67)].length) ko25 HM rfl Try.underlying68 info67 rfl (HM.CR 3 rfl).2.2 (by have h_ := LMc11.out; simp only [List.length_singleton]; omega) ?_ (ops := #[]) (hw := by rfl) (hs := (eval_of e26)) (hx := (eval_of e28)))
    clear HM
    intro v466 w26 HM
    exact hK.out _ _ ⟨v463, .slice Xo25 [(⟨(rd_T67 l0_2 a1).f0, (rd_T67 l0_2 a1).f1, (rd_T67 l0_2 a1).f2⟩ : S67)].length ko25, v466, PUT ha 11 hb, (((HM.sF 1 rfl (hoff 14 rfl)).iF 1 rfl (hoff 14 rfl)).iT 3 rfl (hon 10 rfl)).pick [0, 1, 2, 3]⟩
   refine SZ ?_ ?_
   ·rintro b a w ⟨v463, v16, v466, ha, HM⟩ hb hon hoff K hK
    replace ha := Aside0.mk ha
    have e18 := PE ha 0 hon
    exact VL (.pointer (some ⟨g, 0, none⟩)) (hK.out _ _ ⟨v463, v16, v466, PUT ha 12 hb, HM⟩)
   refine SZ ?_ ?_
   ·rintro b a w ⟨v463, v16, v466, ha, HM⟩ hb hon hoff K hK
    replace ha := Aside0.mk ha
    have e30 := PE ha 12 hon
    exact VL (.pointer (some ⟨g, 2, none⟩)) (hK.out _ _ ⟨v463, v16, v466, PUT ha 13 hb, HM⟩)
   refine SZ ?_ ?_
   ·rintro b a w ⟨v463, v16, v466, ha, HM⟩ hb hon hoff K hK
    replace ha := Aside0.mk ha
    replace HM := HM.sT 0 rfl (hon 11 rfl)
    replace HM := HM.sF 1 rfl hb
    obtain ⟨Xo27, ko27, rfl⟩ := HM.rdR 0 rfl
    have e31 := PE ha 13 hon
    have e29 := PE ha 11 hon
    refine ST (eS 1 31 2 [.slice Xo27 (t462 ++ [(⟨(rd_T67 l0_2 a1).f0, (rd_T67 l0_2 a1).f1, (rd_T67 l0_2 a1).f2⟩ : S67)]).length ko27] HM rfl rfl ?_ (hp := (eval_of e31)) (hx := (by rw [eval_of e29]; rfl)))
    clear HM
    intro w28 HM
    exact hK.out _ _ ⟨v463, v16, .slice Xo27 (t462 ++ [(⟨(rd_T67 l0_2 a1).f0, (rd_T67 l0_2 a1).f1, (rd_T67 l0_2 a1).f2⟩ : S67)]).length ko27, PUS ha, (HM.iT 0 rfl (hon 11 rfl)).pick [0, 1, 2, 3]⟩
   exact steps_nil
  rintro _ w29 ⟨v463, v16, v466, rfl, HM⟩
  replace HM := HM.sT 0 rfl rfl
  replace HM := HM.sT 1 rfl rfl
  replace HM := HM.sT 3 rfl rfl
  simp only [putSel, if_true, Act.put, List.setIfInBounds_toArray, List.set_cons_zero, List.set_cons_succ, gt_iff_lt, ge_iff_le]
  simp only [Option.some.injEq, Prod.mk.injEq] at H
  obtain ⟨rfl, rfl, rfl⟩ := H
  go_wp2
  first | go_end0 | ((try simp only [Exit.inBlock, Exit.then]); refine bodyPost_ret (results_none rfl _ _ _) rfl ?_)
  first | exact ⟨_, ER, (MD HM).pick [0, 1]⟩ | exact ⟨ER, _, (MD HM).pick [0, 1]⟩
 ·obtain ⟨c4b0, c4b1⟩ := BF c4
  first|rw [c4b0]|(simp only [i64_w, i32_w]; rw [c4b0])|skip
  go_upto_if 32 with (fail)
  replace H := IT H; rcases H with ⟨c30, H⟩ | ⟨c30, H⟩
  ·obtain ⟨c30b0, c30b1⟩ := BE c30
   clear c30
   first|rw [c30b0]|(simp only [i64_w, i32_w]; rw [c30b0])|skip
   replace H := GD H; obtain ⟨c31, H⟩ := H
   have c31b0 := decide_eq_true c31
   clear c31
   replace H := GD H; obtain ⟨c32, H⟩ := H
   have c32b0 := decide_eq_true c32
   clear c32
   simp only [Option.some.injEq, Prod.mk.injEq] at H
   obtain ⟨rfl, rfl, rfl⟩ := H
   obtain ⟨Xo34, ko34, rfl⟩ := HM.rdR 0 rfl
   have p33 : 0 ≤ (a1 : Int) := of_decide_eq_true AS
   have q33 : (a1 : Int) < ((l0_2.length : Int) : Int) := of_decide_eq_true AS
   obtain ⟨go33, ef33⟩ := HM.form 0 rfl (by have h_ := (HM.CR 0 rfl).1; omega)
   subst ef33
   obtain ⟨hx33_0, hx33_1, hx33_2, hf33_0, hf33_1, hf33_2⟩ := HM.el3 0 rfl z67 (a1 : Int) p33 (by have h_ := (HM.CR 0 rfl).1; omega) (.string ((rd_T67 l0_2 a1).f0)) (.string ((rd_T67 l0_2 a1).f1)) (.int .i64 ((rd_T67 l0_2 a1).f2)) (fun _ _ h => k67_openM h)
   replace p33 := eq_true p33
   replace q33 := eq_true q33
   go_wp2_with (first | ((with_reducible refine gS 40 rfl ?_); refine pPR 0 40 (a1 : Int) 2 [.int .i64 1] k67 67 l0_2 (⟨(rd_T67 l0_2 a1).f0, (rd_T67 l0_2 a1).f1, 1⟩ : S67) z67 [.string ((rd_T67 l0_2 a1).f0), .string ((rd_T67 l0_2 a1).f1), .int .i64 ((rd_T67 l0_2 a1).f2)] HM rfl rfl (of_decide_eq_true AS) (by have h_ : (a1 : Int) < ((l0_2.length : Int) : Int) := of_decide_eq_true AS; have e_ := (HM.CR 0 rfl).1; omega) (fun _ _ h => k67_openM h) (k67_mkM _ _ _ (⟨(rd_T67 l0_2 a1).f0, (rd_T67 l0_2 a1).f1, 1⟩ : S67)) ?_; clear HM; intro w35 HM))
   first | go_end0 | ((try simp only [Exit.inBlock, Exit.then]); refine bodyPost_ret (results_none rfl _ _ _) rfl ?_)
   first | exact ⟨_, ER, (MD HM).pick [0, 1]⟩ | exact ⟨ER, _, (MD HM).pick [0, 1]⟩
  ·obtain ⟨c30b0, c30b1⟩ := BF c30
   first|rw [c30b0]|(simp only [i64_w, i32_w]; rw [c30b0])|skip
   simp only [Option.some.injEq, Prod.mk.injEq] at H
   obtain ⟨rfl, rfl, rfl⟩ := H
   go_wp2
   first | go_end0 | ((try simp only [Exit.inBlock, Exit.then]); refine bodyPost_ret (results_none rfl _ _ _) rfl ?_)
   first | exact ⟨_, ER, (MD HM).pick [0, 1]⟩ | exact ⟨ER, _, (MD HM).pick [0, 1]⟩
def impl_RowGet.f (k : Nat) (a0_0 : Int) (a0_1 : Int) (l0_2 : List (S67)) (a1 : ByteArray) : Option (Int × Int × (List (S67)) × ByteArray × Bool) := (impl_RowOk.f k a0_0 a0_1 l0_2).bind fun t471 => (if t471 = true then ((impl_copyRow.f a0_0 a0_1 l0_2).bind fun bt472 => ((impl_itemAt.f l0_2 a1).bind fun t478 => (if t478 < 0 then (some (bt472.1, bt472.2.1, bt472.2.2, (⟨#[]⟩ : ByteArray), false)) else ((impl_Row_asked.f bt472.1 bt472.2.1 bt472.2.2 t478).bind fun bt479 => (if 0 ≤ t478 then (if t478 < (l0_2.length : Int) then (some (bt479.1, bt479.2.1, bt479.2.2, (rd_T67 l0_2 t478).f1, true)) else (none)) else (none)))))) else (some (0, 0, ([] : List (S67)), (⟨#[]⟩ : ByteArray), false)))
def impl_RowGet.T8 : Bool × List (List Nat × List Nat) := (true, [([], []), ([], []), ([1], [1]), ([], []), ([2, 3], [2, 3]), ([4], [4]), ([5], [5]), ([0, 0], [0]), ([6, 7, 0, 1, 2, 3, 4, 5, 6, 7], [6]), ([8, 0, 1, 2, 3, 4, 5, 6, 7, 8], [])])
def impl_RowGet.B8 : List Nat := [0, 0, 2, 0, 14, 30, 62, 1, 255, 511]
theorem impl_RowGet.tab8 : rtab .any (opsOf Try.f63 8) = impl_RowGet.T8 := by kernel_rfl
theorem impl_RowGet.bits8 : waitsOk impl_RowGet.T8.2 impl_RowGet.B8 = true := by kernel_rfl
theorem impl_RowGet.calls (k : Nat) (a0_0 : Int) (a0_1 : Int) (A0_2 : Option Addr) (c0_2 : Nat) (l0_2 : List (S67)) (a1 : ByteArray) (r1 : Int) (r2 : Int) (r3 : List (S67)) (r4 : ByteArray) (r5 : Bool) (w : World) (hr0_2 : Kd.C k67 w A0_2 l0_2.length l0_2) (hc0_2 : l0_2.length ≤ c0_2) (h : impl_RowGet.f k a0_0 a0_1 l0_2 a1 = some (r1, r2, r3, r4, r5)) :
  Calls Try.prog 63 #[.agg #[.int .i64 a0_0, .int .i64 a0_1, .slice A0_2 l0_2.length c0_2], .string a1] w fun e w' => ∃ v2_ : Value, e = .returned (.tuple #[.agg #[.int .i64 r1, .int .i64 r2, v2_], .string r4, .bool r5]) ∧ Mem w [] w' [rowR k67 67 v2_ r3] := by
 have hu75 := Try.underlying75
 have HR0_2 := Aside0.mk hr0_2
 have HC0_2 := Aside0.mk hc0_2
 clear hr0_2 hc0_2
 have HM := Mem.nil w
 have H := h
 clear h
 unfold impl_RowGet.f at H
 go_enter Try.func63, Try.ntmps63
 replace H := BN H; obtain ⟨t471, A6, H⟩ := H
 go_upto_if 11 with (first | ((with_reducible refine gN 2 rfl ?_); refine pB 2 75 [.int .i64 a0_0, .int .i64 a0_1, .slice A0_2 l0_2.length c0_2] HM rfl ?_; clear HM; intro gb469 w3 HM) | ((with_reducible refine gN 4 rfl ?_); refine pB 4 75 [.int .i64 0, .int .i64 0, .slice none 0 0] HM rfl ?_; clear HM; intro gb470 w4 HM; obtain ⟨_,_,_,_,_,_⟩ := bk3 (HM.bx 0 rfl)) | ((with_reducible refine gC 60 rfl ?_); refine pC (some 10) rfl #[.agg #[.int .i64 a0_0, .int .i64 a0_1, .slice A0_2 l0_2.length c0_2]] rfl Try.func60 (impl_RowOk.calls k a0_0 a0_1 _ _ l0_2 t471 _ (HM.came HR0_2.out) HC0_2.out A6.out) ?_; rintro e w7 ⟨rfl, hR⟩; refine ⟨_, rfl, ?_⟩; replace HM := HM.call hR; clear hR))
 replace HM := nzM HM
 replace H := IB H
 rcases H with ⟨c8, H⟩ | ⟨c8, H⟩
 ·subst c8
  replace H := BN H; obtain ⟨⟨t472, t473, t474⟩, A10, H⟩ := H
  replace H := BN H; obtain ⟨t478, A16, H⟩ := H
  obtain ⟨_,_,_,_,_,_⟩ := bk3 (HM.bx 0 rfl)
  go_upto_if 20 with (first | ((with_reducible refine gC 85 rfl ?_); refine pC (some 14) rfl #[.agg #[.int .i64 a0_0, .int .i64 a0_1, .slice A0_2 l0_2.length c0_2]] rfl Try.func85 (impl_copyRow.calls a0_0 a0_1 _ _ l0_2 t472 t473 t474 _ (HM.came HR0_2.out) HC0_2.out A10.out) ?_; rintro e w11 ⟨v475, rfl, hR⟩; refine ⟨_, rfl, ?_⟩; replace HM := HM.call hR; clear hR) | ((with_reducible refine gN 7 rfl ?_); refine pB 7 75 [.int .i64 0, .int .i64 0, .slice none 0 0] HM rfl ?_; clear HM; intro gb477 w12 HM; obtain ⟨Xo13, ko13, rfl⟩ := HM.rdR 2 rfl) | ((with_reducible refine gS 7 rfl ?_); refine pS 3 7 0 [.int .i64 t472, .int .i64 t473, .slice Xo13 t474.length ko13] HM rfl rfl ?_; clear HM; intro w14 HM; obtain ⟨_,_,_,_,_,_⟩ := bk3 (HM.bx 0 rfl)) | ((with_reducible refine gC 86 rfl ?_); refine pC (some 18) rfl #[.slice A0_2 l0_2.length c0_2, .string a1] rfl Try.func86 (impl_itemAt.calls A0_2 c0_2 l0_2 a1 t478 _ (HM.came HR0_2.out) HC0_2.out A16.out) ?_; rintro e w17 ⟨rfl, hb⟩; refine ⟨_, rfl, ?_⟩; replace HM := HM.below hb; clear hb))
  replace HM := nzM HM
  replace H := IT H; rcases H with ⟨c18, H⟩ | ⟨c18, H⟩
  ·have c18b0 : decide (t478 < 0) = true := decide_eq_true c18
   clear c18
   first|rw [c18b0]|(simp only [i64_w, i32_w]; rw [c18b0])|skip
   simp only [Option.some.injEq, Prod.mk.injEq] at H
   obtain ⟨rfl, rfl, rfl, rfl, rfl⟩ := H
   obtain ⟨_,_,_,_,_,_⟩ := bk3 (HM.bx 3 rfl)
   go_wp2_with (first | ((with_reducible refine gS 4 rfl ?_); refine pS 1 4 0 [.int .i64 t472, .int .i64 t473, .slice Xo13 t474.length ko13] HM rfl rfl ?_; clear HM; intro w20 HM))
   refine bodyPost_ret (results_ctt rfl _ _ gb470 75 #[.int .i64 t472, .int .i64 t473, .slice Xo13 t474.length ko13] (0, 0) _ rfl (HM.bx 1 rfl) Try.underlying75 rfl (by kernel_rfl)) rfl ?_
   exact ⟨_, ER, (MD HM).pick [2]⟩
  ·have c18b0 : decide (t478 < 0) = false := decide_eq_false c18
   clear c18
   first|rw [c18b0]|(simp only [i64_w, i32_w]; rw [c18b0])|skip
   replace H := BN H; obtain ⟨⟨t479, t480, t481⟩, A21, H⟩ := H
   try go_wp2_with (first | ((with_reducible refine gC 87 rfl ?_); refine pC (some 23) rfl #[.pointer (some ⟨gb477, 0, none⟩), .int .i64 t478] rfl Try.func87 (impl_Row_asked.calls gb477 t472 t473 (.slice Xo13 t474.length ko13) t474 t478 t479 t480 t481 _ _ _ (HM.focus [0, 1] [2, 3]) A21.out) ?_; rintro e w22 ⟨v482, rfl, hR⟩; refine ⟨_, rfl, ?_⟩; replace HM := nzM hR.unfocus; clear hR))
   replace H := GD H; obtain ⟨c23, H⟩ := H
   have c23b0 : decide (0 ≤ t478) = true := decide_eq_true c23
   clear c23
   replace H := GD H; obtain ⟨c24, H⟩ := H
   have c24b0 : decide (t478 < (l0_2.length : Int)) = true := decide_eq_true c24
   clear c24
   have p484 : 0 ≤ (t478 : Int) := of_decide_eq_true AS
   have q484 : (t478 : Int) < (l0_2.length : Int) := of_decide_eq_true AS
   obtain ⟨ad484, e484, hx484_0, hx484_1, hx484_2⟩ := at_T67 (HM.came HR0_2.out) t478 p484 q484
   cases e484
   replace p484 := eq_true p484
   replace q484 := eq_true q484
   obtain ⟨Xo29, ko29, rfl⟩ := HM.rdR 2 rfl
   refine RGN 10 [0, 1, 2, 3, 4, 5, 6, 7, 8, 9] (fun a0 b a w' => a = putSel a0 b [(0, 24, .agg #[.int .i64 t479, .int .i64 t480, .slice Xo29 t481.length ko29]), (1, 25, .pointer (some ⟨gb469, 2, none⟩)), (2, 26, .slice (some ad484) l0_2.length c0_2), (3, 27, .int .i64 t478), (4, 28, .pointer (some (ad484.add ((t478).toNat * 3)))), (5, 29, .pointer (some ⟨(ad484.add ((t478).toNat * 3)).block, (ad484.add ((t478).toNat * 3)).off + 1, none⟩)), (6, 30, .string ((rd_T67 l0_2 t478).f1)), (8, 5, .string ((rd_T67 l0_2 t478).f1)), (9, 6, .bool true)] ∧ Mem w [] w' [box 75 gb469 [.int .i64 a0_0, .int .i64 a0_1, .slice (some ad484) l0_2.length c0_2], sel (b 7) (box 75 gb470 [.int .i64 t479, .int .i64 t480, .slice Xo29 t481.length ko29]) (box 75 gb470 [.int .i64 0, .int .i64 0, .slice none 0 0]), rowR k67 67 (.slice Xo29 t481.length ko29) t481, box 75 gb477 [.int .i64 t479, .int .i64 t480, .slice Xo29 t481.length ko29]]) impl_RowGet.tab8 impl_RowGet.bits8 ?_ ?_ ?_
   ·exact ⟨PS0' rfl _, (HM.drew).pick [0, 1, 2, 3]⟩
   ·clear HM
    refine SY ?_ ?_
    ·intro b a w ha HM hb hon hoff K hK
     obtain ⟨_,_,_,_,_,_⟩ := bk3 (HM.bx 3 rfl)
     have e7 := PG ha 7
     exact VL (.agg #[.int .i64 t479, .int .i64 t480, .slice Xo29 t481.length ko29]) (hK.out _ _ ⟨PUT ha 0 hb, HM⟩)
    refine SY ?_ ?_
    ·intro b a w ha HM hb hon hoff K hK
     have e2 := PG ha 2
     exact VL (.pointer (some ⟨gb469, 2, none⟩)) (hK.out _ _ ⟨PUT ha 1 hb, HM⟩)
    refine SY ?_ ?_
    ·intro b a w ha HM hb hon hoff K hK
     obtain ⟨_,_,_,_,_,_⟩ := bk3 (HM.bx 0 rfl)
     have e25 := PE ha 1 hon
     exact VL (.slice (some ad484) l0_2.length c0_2) (hK.out _ _ ⟨PUT ha 2 hb, HM⟩)
    refine SY ?_ ?_
    ·intro b a w ha HM hb hon hoff K hK
     have e8 := PG ha 8
     exact VL (.int .i64 t478) (hK.out _ _ ⟨PUT ha 3 hb, HM⟩)
    refine SY ?_ ?_
    ·intro b a w ha HM hb hon hoff K hK
     have p484 : 0 ≤ (t478 : Int) := of_decide_eq_true AS
     have q484 : (t478 : Int) < (l0_2.length : Int) := of_decide_eq_true AS
     obtain ⟨ad484, e484, hx484_0, hx484_1, hx484_2⟩ := at_T67 (HM.came HR0_2.out) t478 p484 q484
     obtain rfl := Option.some.inj e484
     replace p484 := eq_true p484
     replace q484 := eq_true q484
     have e26 := PE ha 2 hon
     have e27 := PE ha 3 hon
     exact VL (.pointer (some (ad484.add ((t478).toNat * 3)))) (hK.out _ _ ⟨PUT ha 4 hb, HM⟩)
    refine SY ?_ ?_
    ·intro b a w ha HM hb hon hoff K hK
     have e28 := PE ha 4 hon
     exact VL (.pointer (some ⟨(ad484.add ((t478).toNat * 3)).block, (ad484.add ((t478).toNat * 3)).off + 1, none⟩)) (hK.out _ _ ⟨PUT ha 5 hb, HM⟩)
    refine SY ?_ ?_
    ·intro b a w ha HM hb hon hoff K hK
     have p484 : 0 ≤ (t478 : Int) := of_decide_eq_true AS
     have q484 : (t478 : Int) < (l0_2.length : Int) := of_decide_eq_true AS
     obtain ⟨ad484, e484, hx484_0, hx484_1, hx484_2⟩ := at_T67 (HM.came HR0_2.out) t478 p484 q484
     obtain rfl := Option.some.inj e484
     replace p484 := eq_true p484
     replace q484 := eq_true q484
     have e29 := PE ha 5 hon
     exact VL (.string ((rd_T67 l0_2 t478).f1)) (hK.out _ _ ⟨PUT ha 6 hb, HM⟩)
    refine SY ?_ ?_
    ·intro b a w ha HM hb hon hoff K hK
     replace HM := HM.sF 1 rfl hb
     have e4 := PG ha 4
     have e24 := PE ha 0 hon
     refine ST (eS 1 4 0 [.int .i64 t479, .int .i64 t480, .slice Xo29 t481.length ko29] HM rfl rfl ?_ (hp := (eval_of e4)) (hx := (by rw [eval_of e24]; rfl)))
     clear HM
     intro w32 HM
     exact hK.out _ _ ⟨PUS ha, (HM).pick [0, 1, 2, 3]⟩
    refine SY ?_ ?_
    ·intro b a w ha HM hb hon hoff K hK
     have e30 := PE ha 6 hon
     exact VL (.string ((rd_T67 l0_2 t478).f1)) (hK.out _ _ ⟨PUT ha 7 hb, HM⟩)
    refine SY ?_ ?_
    ·intro b a w ha HM hb hon hoff K hK
     exact VL (.bool true) (hK.out _ _ ⟨PUT ha 8 hb, HM⟩)
    exact steps_nil
   rintro _ w33 ⟨rfl, HM⟩
   replace HM := HM.sT 1 rfl rfl
   simp only [putSel, if_true, Act.put, List.setIfInBounds_toArray, List.set_cons_zero, List.set_cons_succ, gt_iff_lt, ge_iff_le]
   simp only [Option.some.injEq, Prod.mk.injEq] at H
   obtain ⟨rfl, rfl, rfl, rfl, rfl⟩ := H
   go_wp2
   refine bodyPost_ret (results_ctt rfl _ _ gb470 75 #[.int .i64 t479, .int .i64 t480, .slice Xo29 t481.length ko29] (0, 0) _ rfl (HM.bx 1 rfl) Try.underlying75 rfl (by kernel_rfl)) rfl ?_
   exact ⟨_, ER, (MD HM).pick [2]⟩
 ·subst c8
  simp only [Option.some.injEq, Prod.mk.injEq] at H
  obtain ⟨rfl, rfl, rfl, rfl, rfl⟩ := H
  go_wp2_with (first | ((with_reducible refine gS 4 rfl ?_); refine pS 1 4 0 [.int .i64 0, .int .i64 0, .slice none 0 0] HM rfl rfl ?_; clear HM; intro w34 HM; replace HM := HM.nl k67 67))
  refine bodyPost_ret (results_ctt rfl _ _ gb470 75 #[.int .i64 0, .int .i64 0, .slice none 0 0] (0, 0) _ rfl (HM.bx 1 rfl) Try.underlying75 rfl (by kernel_rfl)) rfl ?_
  exact ⟨_, ER, (MD HM).pick [2]⟩
mutual
def impl_RowPut.j0 : Nat → ByteArray → ByteArray → Bool → Int → Int → List (S67) → Option (Int × Int × (List (S67)) × List ByteArray × Bool)
 | 0, _, _, _, _, _, _ => none
 | k + 1, x1, x2, x22, x487000, x487001, x487002 => if x22 = true then (some (0, 0, ([] : List (S67)), ([] : List ByteArray), false)) else ((impl_copyRow.f x487000 x487001 x487002).bind fun bt490 => ((some (([] : List ByteArray) : List ByteArray)).bind fun y496 => ((impl_itemAt.f x487002 x1).bind fun t499 => (if t499 ≥ 0 then (if 0 ≤ t499 then (if t499 < (bt490.2.2.length : Int) then ((impl_Row_asked.f bt490.1 bt490.2.1 (bt490.2.2.set (t499 : Int).toNat (⟨(rd_T67 bt490.2.2 t499).f0, x2, (rd_T67 bt490.2.2 t499).f2⟩ : S67)) t499).bind fun bt501 => (some (bt501.1, bt501.2.1, bt501.2.2, y496, true))) else (none)) else (none)) else (if (bt490.2.2.length : Int) = bt490.2.1 then (impl_RowPut.l0 k x1 x2 y496 bt490.1 bt490.2.1 bt490.2.2) else (if bt490.2.2.length < 3518437208883 then ((impl_copyRow.f bt490.1 bt490.2.1 (bt490.2.2 ++ [(⟨x1, x2, 0⟩ : S67)])).bind fun bt533 => (some (bt533.1, bt533.2.1, bt533.2.2, y496, true))) else (none)))))))
def impl_RowPut.l0 : Nat → ByteArray → ByteArray → List ByteArray → Int → Int → List (S67) → Option (Int × Int × (List (S67)) × List ByteArray × Bool)
 | 0, _, _, _, _, _, _ => none
 | k + 1, x1, x2, x10, x496000, x496001, x496002 => if 0 < (x496002.length : Int) then (if ((rd_T67 x496002 0).f2) = 1 then (if 1 ≤ (x496002.length : Int) then ((some (x496002.drop (1 : Int).toNat : List (S67))).bind fun y509 => (if y509.length < 3518437208883 then (impl_RowPut.l0 k x1 x2 x10 x496000 x496001 (y509 ++ [(⟨(rd_T67 x496002 0).f0, (rd_T67 x496002 0).f1, 0⟩ : S67)])) else (none))) else (none)) else (if x10.length < 8796093022208 then (if 1 ≤ (x496002.length : Int) then ((some (x496002.drop (1 : Int).toNat : List (S67))).bind fun y519 => (if y519.length < 3518437208883 then ((impl_copyRow.f x496000 x496001 (y519 ++ [(⟨x1, x2, 0⟩ : S67)])).bind fun bt525 => (some (bt525.1, bt525.2.1, bt525.2.2, (x10 ++ [(rd_T67 x496002 0).f0]), true))) else (none))) else (none)) else (none))) else (none)
end
def impl_RowPut.f (k : Nat) (a0_0 : Int) (a0_1 : Int) (l0_2 : List (S67)) (a1 : ByteArray) (a2 : ByteArray) : Option (Int × Int × (List (S67)) × List ByteArray × Bool) := (impl_RowOk.f k a0_0 a0_1 l0_2).bind fun t488 => (if t488 = true then ((impl_ItemOk.f k a1 a2 0).bind fun t489 => (impl_RowPut.j0 k a1 a2 (!t489) a0_0 a0_1 l0_2)) else (impl_RowPut.j0 k a1 a2 true a0_0 a0_1 l0_2))
def impl_RowPut.T14 : Bool × List (List Nat × List Nat) := (true, [([], []), ([0], [0]), ([1], [1]), ([], []), ([3], [3]), ([2, 4], [2, 4]), ([0, 1, 2, 3, 4, 5], []), ([6, 5, 5, 0, 1, 2, 3, 4, 5], [5, 6])])
def impl_RowPut.B14 : List Nat := [0, 1, 3, 0, 8, 31, 63, 127]
theorem impl_RowPut.tab14 : rtab .any (opsOf Try.f64 14) = impl_RowPut.T14 := by kernel_rfl
theorem impl_RowPut.bits14 : waitsOk impl_RowPut.T14.2 impl_RowPut.B14 = true := by kernel_rfl
theorem impl_RowPut.calls (k : Nat) (a0_0 : Int) (a0_1 : Int) (A0_2 : Option Addr) (c0_2 : Nat) (l0_2 : List (S67)) (a1 : ByteArray) (a2 : ByteArray) (r1 : Int) (r2 : Int) (r3 : List (S67)) (r4 : List ByteArray) (r5 : Bool) (w : World) (hr0_2 : Kd.C k67 w A0_2 l0_2.length l0_2) (hc0_2 : l0_2.length ≤ c0_2) (h : impl_RowPut.f k a0_0 a0_1 l0_2 a1 a2 = some (r1, r2, r3, r4, r5)) :
  Calls Try.prog 64 #[.agg #[.int .i64 a0_0, .int .i64 a0_1, .slice A0_2 l0_2.length c0_2], .string a1, .string a2] w fun e w' => ∃ v2_ v3_ : Value, e = .returned (.tuple #[.agg #[.int .i64 r1, .int .i64 r2, v2_], v3_, .bool r5]) ∧ Mem w [] w' [rowR k67 67 v2_ r3, rowR Kd.string 9 v3_ r4] := by
 have hu75 := Try.underlying75
 have hu67 := Try.underlying67
 have HR0_2 := Aside0.mk hr0_2
 have HC0_2 := Aside0.mk hc0_2
 clear hr0_2 hc0_2
 have HM := Mem.nil w
 have H := h
 clear h
 unfold impl_RowPut.f at H
 go_enter Try.func64, Try.ntmps64
 have HC6 := Aside0.mk H
 clear H
 go_upto_region 1 with (first | ((with_reducible refine gN 3 rfl ?_); refine pB 3 75 [.int .i64 a0_0, .int .i64 a0_1, .slice A0_2 l0_2.length c0_2] HM rfl ?_; clear HM; intro gb486 w4 HM) | ((with_reducible refine gN 6 rfl ?_); refine pB 6 75 [.int .i64 0, .int .i64 0, .slice none 0 0] HM rfl ?_; clear HM; intro gb487 w5 HM))
 replace HM := nzM HM
 try simp only [Act.put, List.setIfInBounds_toArray, List.set_cons_zero, List.set_cons_succ]
 go_cut [22] (fun v22 wc => ∃ (kq : Nat) (x22_5 : Bool), v22 = .bool x22_5 ∧ Aside0 (impl_RowPut.j0 kq a1 a2 x22_5 a0_0 a0_1 l0_2 = some (r1, r2, r3, r4, r5)) ∧ Aside0 (kq ≤ k) ∧ Mem w [] wc [box 75 gb486 [.int .i64 a0_0, .int .i64 a0_1, .slice A0_2 l0_2.length c0_2], box 75 gb487 [.int .i64 0, .int .i64 0, .slice none 0 0]])
 case first =>
  have H := HC6.out
  clear HC6
  replace H := BN H; obtain ⟨t488, A8, H⟩ := H
  replace H := IB H
  rcases H with ⟨c10, H⟩ | ⟨c10, H⟩
  ·subst c10
   replace H := BN H; obtain ⟨t489, A11, H⟩ := H
   have H' := Aside0.mk H
   clear H
   obtain ⟨_,_,_,_,_,_⟩ := bk3 (HM.bx 0 rfl)
   go_wp2_with (first | ((with_reducible refine gC 60 rfl ?_); refine pC (some 14) rfl #[.agg #[.int .i64 a0_0, .int .i64 a0_1, .slice A0_2 l0_2.length c0_2]] rfl Try.func60 (impl_RowOk.calls k a0_0 a0_1 _ _ l0_2 true _ (HM.came HR0_2.out) HC0_2.out A8.out) ?_; rintro e w9 ⟨rfl, hR⟩; refine ⟨_, rfl, ?_⟩; replace HM := HM.call hR; clear hR) | ((with_reducible refine gC 42 rfl ?_); refine pC (some 20) rfl #[.agg #[.string a1, .string a2, .int .i64 0]] rfl Try.func42 (impl_ItemOk.calls k a1 a2 0 t489 _ A11.out) ?_; rintro e w12 ⟨rfl, hR⟩; refine ⟨_, rfl, ?_⟩; replace HM := HM.call hR; clear hR))
   go_meet
   case rel => exact ⟨_, (!t489), RS, H', ⟨by first | omega | exact Nat.le_refl _⟩, (MD HM).pick [0, 1]⟩
  ·subst c10
   have H' := Aside0.mk H
   clear H
   obtain ⟨_,_,_,_,_,_⟩ := bk3 (HM.bx 0 rfl)
   go_wp2_with (first | ((with_reducible refine gC 60 rfl ?_); refine pC (some 14) rfl #[.agg #[.int .i64 a0_0, .int .i64 a0_1, .slice A0_2 l0_2.length c0_2]] rfl Try.func60 (impl_RowOk.calls k a0_0 a0_1 _ _ l0_2 false _ (HM.came HR0_2.out) HC0_2.out A8.out) ?_; rintro e w9 ⟨rfl, hR⟩; refine ⟨_, rfl, ?_⟩; replace HM := HM.call hR; clear hR))
   go_meet
   case rel => exact ⟨_, (true), RS, H', ⟨by first | omega | exact Nat.le_refl _⟩, (MD HM).pick [0, 1]⟩
 case rest =>
  clear HC6 HM
  obtain ⟨kq, x22_5, rfl, HA, HJ5, HM⟩ := hcut
  cases kq with
  | zero => exact absurd HA.out (by simp [impl_RowPut.j0])
  | succ kj5 =>
   have H := HA.out
   clear HA
   simp only [impl_RowPut.j0] at H
   go_upto_if 22 with (fail)
   replace H := IB H
   rcases H with ⟨c13, H⟩ | ⟨c13, H⟩
   ·subst c13
    simp only [Option.some.injEq, Prod.mk.injEq] at H
    obtain ⟨rfl, rfl, rfl, rfl, rfl⟩ := H
    go_wp2_with (first | ((with_reducible refine gS 6 rfl ?_); refine pS 1 6 0 [.int .i64 0, .int .i64 0, .slice none 0 0] HM rfl rfl ?_; clear HM; intro w14 HM; replace HM := HM.nl k67 67; replace HM := HM.nl Kd.string 9))
    refine bodyPost_ret (results_ctt rfl _ _ gb487 75 #[.int .i64 0, .int .i64 0, .slice none 0 0] (0, 0) _ rfl (HM.bx 1 rfl) Try.underlying75 rfl (by kernel_rfl)) rfl ?_
    exact ⟨_, _, ER, (MD HM).pick [2, 3]⟩
   ·subst c13
    replace H := BN H; obtain ⟨⟨t490, t491, t492⟩, A16, H⟩ := H
    replace H := BLt H; obtain ⟨y496, Ny496, H⟩ := H
    replace Ny496 := Aside0.mk Ny496
    replace H := BN H; obtain ⟨t499, A23, H⟩ := H
    obtain ⟨_,_,_,_,_,_⟩ := bk3 (HM.bx 0 rfl)
    go_upto_if 32 with (first | ((with_reducible refine gC 85 rfl ?_); refine pC (some 25) rfl #[.agg #[.int .i64 a0_0, .int .i64 a0_1, .slice A0_2 l0_2.length c0_2]] rfl Try.func85 (impl_copyRow.calls a0_0 a0_1 _ _ l0_2 t490 t491 t492 _ (HM.came HR0_2.out) HC0_2.out A16.out) ?_; rintro e w17 ⟨v493, rfl, hR⟩; refine ⟨_, rfl, ?_⟩; replace HM := HM.call hR; clear hR) | ((with_reducible refine gN 9 rfl ?_); refine pB 9 75 [.int .i64 0, .int .i64 0, .slice none 0 0] HM rfl ?_; clear HM; intro gb495 w18 HM; obtain ⟨Xo19, ko19, rfl⟩ := HM.rdR 2 rfl) | ((with_reducible refine gS 9 rfl ?_); refine pS 3 9 0 [.int .i64 t490, .int .i64 t491, .slice Xo19 t492.length ko19] HM rfl rfl ?_; clear HM; intro w20 HM) | ((with_reducible refine gN 26 rfl ?_); refine pL 26 Kd.string 9 ([] : List ByteArray) [] (Reps.none _ _) HM rfl ?_; clear HM; intro v497 w21 HM; replace HM := HM.nm 4 rfl Ny496.out; obtain ⟨_,_,_,_,_,_⟩ := bk3 (HM.bx 0 rfl)) | ((with_reducible refine gC 86 rfl ?_); refine pC (some 30) rfl #[.slice A0_2 l0_2.length c0_2, .string a1] rfl Try.func86 (impl_itemAt.calls A0_2 c0_2 l0_2 a1 t499 _ (HM.came HR0_2.out) HC0_2.out A23.out) ?_; rintro e w24 ⟨rfl, hb⟩; refine ⟨_, rfl, ?_⟩; replace HM := HM.below hb; clear hb))
    replace HM := nzM HM
    replace H := IT H; rcases H with ⟨c25, H⟩ | ⟨c25, H⟩
    ·have c25b0 : decide (0 ≤ t499) = true := decide_eq_true c25
     clear c25
     first|rw [c25b0]|(simp only [i64_w, i32_w]; rw [c25b0])|skip
     replace H := GD H; obtain ⟨c27, H⟩ := H
     have c27b0 : decide (0 ≤ t499) = true := decide_eq_true c27
     clear c27
     replace H := GD H; obtain ⟨c28, H⟩ := H
     have c28b0 : decide (t499 < (t492.length : Int)) = true := decide_eq_true c28
     clear c28
     replace H := BN H; obtain ⟨⟨t501, t502, t503⟩, A31, H⟩ := H
     simp only [Option.some.injEq, Prod.mk.injEq] at H
     obtain ⟨rfl, rfl, rfl, rfl, rfl⟩ := H
     obtain ⟨_,_,_,_,_,_⟩ := bk3 (HM.bx 3 rfl)
     have p29 : 0 ≤ (t499 : Int) := of_decide_eq_true AS
     have q29 : (t499 : Int) < ((t492.length : Int) : Int) := of_decide_eq_true AS
     obtain ⟨go29, ef29⟩ := HM.form 2 rfl (by have h_ := (HM.CR 2 rfl).1; omega)
     subst ef29
     obtain ⟨hx29_0, hx29_1, hx29_2, hf29_0, hf29_1, hf29_2⟩ := HM.el3 2 rfl z67 (t499 : Int) p29 (by have h_ := (HM.CR 2 rfl).1; omega) (.string ((rd_T67 t492 t499).f0)) (.string ((rd_T67 t492 t499).f1)) (.int .i64 ((rd_T67 t492 t499).f2)) (fun _ _ h => k67_openM h)
     replace p29 := eq_true p29
     replace q29 := eq_true q29
     go_wp2_with (first | ((with_reducible refine gS 38 rfl ?_); refine pPR 2 38 (t499 : Int) 1 [.string a2] k67 67 t492 (⟨(rd_T67 t492 t499).f0, a2, (rd_T67 t492 t499).f2⟩ : S67) z67 [.string ((rd_T67 t492 t499).f0), .string ((rd_T67 t492 t499).f1), .int .i64 ((rd_T67 t492 t499).f2)] HM rfl rfl (of_decide_eq_true AS) (by have h_ : (t499 : Int) < ((t492.length : Int) : Int) := of_decide_eq_true AS; have e_ := (HM.CR 2 rfl).1; omega) (fun _ _ h => k67_openM h) (k67_mkM _ _ _ (⟨(rd_T67 t492 t499).f0, a2, (rd_T67 t492 t499).f2⟩ : S67)) ?_; clear HM; intro w30 HM) | ((with_reducible refine gC 87 rfl ?_); refine pC (some 40) rfl #[.pointer (some ⟨gb495, 0, none⟩), .int .i64 t499] rfl Try.func87 (impl_Row_asked.calls gb495 t490 t491 (.slice (some ⟨go29, 0, none⟩) t492.length ko19) (t492.set (t499 : Int).toNat (⟨(rd_T67 t492 t499).f0, a2, (rd_T67 t492 t499).f2⟩ : S67)) t499 t501 t502 t503 _ _ _ (HM.focus [0, 1, 4] [2, 3]) A31.out) ?_; rintro e w32 ⟨v504, rfl, hR⟩; refine ⟨_, rfl, ?_⟩; replace HM := nzM hR.unfocus; clear hR; obtain ⟨_,_,_,_,_,_⟩ := bk3 (HM.bx 4 rfl); obtain ⟨Xo34, ko34, rfl⟩ := HM.rdR 3 rfl) | ((with_reducible refine gS 6 rfl ?_); refine pS 1 6 0 [.int .i64 t501, .int .i64 t502, .slice Xo34 t503.length ko34] HM rfl rfl ?_; clear HM; intro w35 HM))
     refine bodyPost_ret (results_ctt rfl _ _ gb487 75 #[.int .i64 t501, .int .i64 t502, .slice Xo34 t503.length ko34] (0, 0) _ rfl (HM.bx 1 rfl) Try.underlying75 rfl (by kernel_rfl)) rfl ?_
     exact ⟨_, _, ER, (MD HM).pick [3, 2]⟩
    ·have c25b0 : decide (0 ≤ t499) = false := decide_eq_false c25
     clear c25
     first|rw [c25b0]|(simp only [i64_w, i32_w]; rw [c25b0])|skip
     obtain ⟨_,_,_,_,_,_⟩ := bk3 (HM.bx 3 rfl)
     go_upto_if 48 with (fail)
     replace H := IT H; rcases H with ⟨c37, H⟩ | ⟨c37, H⟩
     ·have c37b0 : ((t492.length : Int) == t491) = true := beq_iff_eq.mpr c37
      have c37b1 : ((t492.length : Int) != t491) = false := bne_eq_false_iff_eq.mpr c37
      clear c37
      first|rw [c37b0]|(simp only [i64_w, i32_w]; rw [c37b0])|skip
      have H' := Aside0.mk H
      clear H
      replace HM := HM.toQ 2 rfl
      go_wp2
      go_loopg [] kj5 (fun kq w' => ∃ (x496002_2 : List (S67)) (u496002 : Value), Aside0 (impl_RowPut.l0 kq a1 a2 y496 t490 t491 x496002_2 = some (r1, r2, r3, r4, r5)) ∧ Aside0 (kq ≤ kj5) ∧ Mem w [] w' [rowR Kd.string 9 v497 y496, row k67 67 u496002 x496002_2, box 75 gb486 [.int .i64 a0_0, .int .i64 a0_1, .slice A0_2 l0_2.length c0_2], box 75 gb487 [.int .i64 0, .int .i64 0, .slice none 0 0], box 75 gb495 [.int .i64 t490, .int .i64 t491, u496002]])
      case atStart => exact ⟨(t492), (.slice Xo19 t492.length ko19), H', ⟨Nat.le_refl _⟩, (MD HM).pick [4, 2, 0, 1, 3]⟩
      case round =>
       clear H' HM
       obtain ⟨x496002_2, u496002, HA, HK2, HM⟩ := hrel
       cases gk with
       | zero => exact absurd HA.out (by simp [impl_RowPut.l0])
       | succ k2 =>
        have H := HA.out
        clear HA
        simp only [impl_RowPut.l0] at H
        replace H := GD H; obtain ⟨c39, H⟩ := H
        replace c39 : 0 < (x496002_2.length : Int) := c39
        have c39b0 : decide (0 < (x496002_2.length : Int)) = true := decide_eq_true c39
        have c39b1 : decide (0 < x496002_2.length) = true := decide_eq_true (by omega)
        have c39b9 : decide (0 < x496002_2.length) = true := decide_eq_true (by omega)
        clear c39
        obtain ⟨_,_,_,_,_,_⟩ := bk3 (HM.bx 4 rfl)
        obtain ⟨Xo40, ko40, rfl⟩ := HM.rd 1 rfl
        have p506 : 0 ≤ (0 : Int) := (by omega)
        have q506 : (0 : Int) < (x496002_2.length : Int) := of_decide_eq_true AS
        obtain ⟨ad506, e506, hx506_0, hx506_1, hx506_2⟩ := at_T67 (HM.C 1 rfl).2.2 0 p506 q506
        cases e506
        have qi506 : (0 < x496002_2.length) = True := eq_true (by omega)
        (try rw [show ((0 : Int)).toNat = 0 from rfl] at hx506_0)
        (try rw [show 0 * 3 = 0 from rfl] at hx506_0)
        (try rw [Addr.add_zero'] at hx506_0)
        (try rw [show ((0 : Int)).toNat = 0 from rfl] at hx506_1)
        (try rw [show 0 * 3 = 0 from rfl] at hx506_1)
        (try rw [Addr.add_zero'] at hx506_1)
        (try rw [show ((0 : Int)).toNat = 0 from rfl] at hx506_2)
        (try rw [show 0 * 3 = 0 from rfl] at hx506_2)
        (try rw [Addr.add_zero'] at hx506_2)
        replace p506 := eq_true p506
        replace q506 := eq_true q506
        go_upto_if 54 with (fail)
        replace H := IT H; rcases H with ⟨c41, H⟩ | ⟨c41, H⟩
        ·have c41b0 : (((rd_T67 x496002_2 0).f2) == 1) = true := beq_iff_eq.mpr c41
         have c41b1 : (((rd_T67 x496002_2 0).f2) != 1) = false := bne_eq_false_iff_eq.mpr c41
         clear c41
         first|rw [c41b0]|(simp only [i64_w, i32_w]; rw [c41b0])|skip
         have p507 : 0 ≤ (0 : Int) := (by omega)
         have q507 : (0 : Int) < (x496002_2.length : Int) := of_decide_eq_true AS
         obtain ⟨ad507, e507, hx507_0, hx507_1, hx507_2⟩ := at_T67 (HM.C 1 rfl).2.2 0 p507 q507
         obtain rfl := Option.some.inj e507
         have qi507 : (0 < x496002_2.length) = True := eq_true (by omega)
         (try rw [show ((0 : Int)).toNat = 0 from rfl] at hx507_0)
         (try rw [show 0 * 3 = 0 from rfl] at hx507_0)
         (try rw [Addr.add_zero'] at hx507_0)
         (try rw [show ((0 : Int)).toNat = 0 from rfl] at hx507_1)
         (try rw [show 0 * 3 = 0 from rfl] at hx507_1)
         (try rw [Addr.add_zero'] at hx507_1)
         (try rw [show ((0 : Int)).toNat = 0 from rfl] at hx507_2)
         (try rw [show 0 * 3 = 0 from rfl] at hx507_2)
         (try rw [Addr.add_zero'] at hx507_2)
         replace p507 := eq_true p507
         replace q507 := eq_true q507
         try go_wp2_with (first | ((with_reducible refine gN 12 rfl ?_); refine pB 12 67 [.string (⟨#[]⟩ : ByteArray), .string (⟨#[]⟩ : ByteArray), .int .i64 0] HM rfl ?_; clear HM; intro gb508 w42 HM) | ((with_reducible refine gS 12 rfl ?_); refine pS 5 12 0 [.string ((rd_T67 x496002_2 0).f0), .string ((rd_T67 x496002_2 0).f1), .int .i64 ((rd_T67 x496002_2 0).f2)] HM rfl rfl ?_; clear HM; intro w43 HM) | ((with_reducible refine gS 59 rfl ?_); refine pS 5 59 2 [.int .i64 0] HM rfl rfl ?_; clear HM; intro w44 HM))
         replace H := GD H; obtain ⟨c45, H⟩ := H
         have c45b0 := eq_true c45
         have c45b1 : decide (1 ≤ (x496002_2.length : Int)) = true := decide_eq_true c45
         clear c45
         replace H := BLt H; obtain ⟨y509, Ny509, H⟩ := H
         replace Ny509 := Aside0.mk Ny509
         replace H := GD H; obtain ⟨c46, H⟩ := H
         have LMc46 := Aside0.mk (show y509.length < 3518437208883 from c46)
         clear c46
         refine RGN 8 [0, 1, 2, 3, 4, 5, 6, 7] (fun a0 b a w' => ∃ (v510 : Value) (v50 : Value) (v513 : Value), a = putSel a0 b [(0, 60, .pointer (some ⟨gb495, 2, none⟩)), (1, 61, .slice (some ad506) x496002_2.length ko40), (2, 62, v510), (3, 63, .agg #[.string ((rd_T67 x496002_2 0).f0), .string ((rd_T67 x496002_2 0).f1), .int .i64 0]), (4, 64, v50), (5, 65, v513), (6, 66, .pointer (some ⟨gb495, 2, none⟩))] ∧ Mem w [] w' [rowR Kd.string 9 v497 y496, sel (b 5) (row k67 67 v513 (y509 ++ [(⟨(rd_T67 x496002_2 0).f0, (rd_T67 x496002_2 0).f1, 0⟩ : S67)])) (sel (b 2) (row k67 67 v510 y509) (row k67 67 (.slice (some ad506) x496002_2.length ko40) x496002_2)), box 75 gb486 [.int .i64 a0_0, .int .i64 a0_1, .slice A0_2 l0_2.length c0_2], box 75 gb487 [.int .i64 0, .int .i64 0, .slice none 0 0], sel (b 7) (box 75 gb495 [.int .i64 t490, .int .i64 t491, v513]) (box 75 gb495 [.int .i64 t490, .int .i64 t491, .slice (some ad506) x496002_2.length ko40]), box 67 gb508 [.string ((rd_T67 x496002_2 0).f0), .string ((rd_T67 x496002_2 0).f1), .int .i64 0], sel (b 4) (rowR k67 67 v50 [(⟨(rd_T67 x496002_2 0).f0, (rd_T67 x496002_2 0).f1, 0⟩ : S67)]) (emp)]) impl_RowPut.tab14 impl_RowPut.bits14 ?_ ?_ ?_
         ·exact ⟨.bool false, .bool false, .bool false, PS0' rfl _, (HM.drew.ems 1).pick [0, 1, 2, 3, 4, 5, 6]⟩
         ·clear HM
          refine SZ ?_ ?_
          ·rintro b a w ⟨v510, v50, v513, ha, HM⟩ hb hon hoff K hK
           replace ha := Aside0.mk ha
           have e9 := PG ha 9
           exact VL (.pointer (some ⟨gb495, 2, none⟩)) (hK.out _ _ ⟨v510, v50, v513, PUT ha 0 hb, HM⟩)
          refine SZ ?_ ?_
          ·rintro b a w ⟨v510, v50, v513, ha, HM⟩ hb hon hoff K hK
           replace ha := Aside0.mk ha
           have HZ := HM
           replace HM := HM.sF 4 rfl (hoff 7 rfl)
           obtain ⟨_,_,_,_,_,_⟩ := bk3 (HM.bx 4 rfl)
           have e60 := PE ha 0 hon
           exact VL (.slice (some ad506) x496002_2.length ko40) (hK.out _ _ ⟨v510, v50, v513, PUT ha 1 hb, HZ⟩)
          refine SZ ?_ ?_
          ·rintro b a w ⟨v510, v50, v513, ha, HM⟩ hb hon hoff K hK
           replace ha := Aside0.mk ha
           replace HM := (HM.sF 1 rfl (hoff 5 rfl)).sF 1 rfl hb
           have e61 := PE ha 1 hon
           refine ST (eD 1 68 67 k67 _ _ 1 x496002_2 (some ad506) ko40 HM rfl Try.underlying68 info67 rfl (fun _ _ h => h) (by omega) (by have h_ : (1 : Int) ≤ ((x496002_2.length : Int) : Int) := of_decide_eq_true AS; first | exact h_ | (have e_ := (HM.C 1 rfl).1; omega)) ?_ (hx := (eval_of e61)) (hl := rfl))
           clear HM
           intro v510 HM
           replace HM := HM.nmQ 1 rfl Ny509.out
           exact hK.out _ _ ⟨v510, v50, v513, PUT ha 2 hb, (HM.iF 1 rfl (hoff 5 rfl)).pick [0, 1, 2, 3, 4, 5, 6]⟩
          refine SZ ?_ ?_
          ·rintro b a w ⟨v510, v50, v513, ha, HM⟩ hb hon hoff K hK
           replace ha := Aside0.mk ha
           obtain ⟨_,_,_,_,_,_⟩ := bk3 (HM.bx 5 rfl)
           have e12 := PG ha 12
           exact VL (.agg #[.string ((rd_T67 x496002_2 0).f0), .string ((rd_T67 x496002_2 0).f1), .int .i64 0]) (hK.out _ _ ⟨v510, v50, v513, PUT ha 3 hb, HM⟩)
          refine SZ ?_ ?_
          ·rintro b a w ⟨v510, v50, v513, ha, HM⟩ hb hon hoff K hK
           replace ha := Aside0.mk ha
           have e63 := PE ha 3 hon
           refine ST (eL 64 k67 67 [(⟨(rd_T67 x496002_2 0).f0, (rd_T67 x496002_2 0).f1, 0⟩ : S67)] [.string ((rd_T67 x496002_2 0).f0), .string ((rd_T67 x496002_2 0).f1), .int .i64 0] (Reps.c3 (show Kd.M k67 _ _ _ (⟨(rd_T67 x496002_2 0).f0, (rd_T67 x496002_2 0).f1, 0⟩ : S67) [.string ((rd_T67 x496002_2 0).f0), .string ((rd_T67 x496002_2 0).f1), .int .i64 0] from (k67_mkM _ _ _ (⟨(rd_T67 x496002_2 0).f0, (rd_T67 x496002_2 0).f1, 0⟩ : S67))) (Reps.none _ _)) HM rfl ?_)
           clear HM
           intro v50 w57 HM
           exact hK.out _ _ ⟨v510, v50, v513, PUT ha 4 hb, (HM).pick [0, 1, 2, 3, 4, 5, 7]⟩
          refine SZ ?_ ?_
          ·rintro b a w ⟨v510, v50, v513, ha, HM⟩ hb hon hoff K hK
           replace ha := Aside0.mk ha
           replace HM := (HM.sF 1 rfl hb).sT 1 rfl (hon 2 rfl)
           replace HM := HM.sT 6 rfl (hon 4 rfl)
           obtain ⟨Xo58, ko58, rfl⟩ := HM.rdR 6 rfl
           have e62 := PE ha 2 hon
           have e64 := PE ha 4 hon
           refine ST (eAq 1 (.tmp 62) (.tmp 64) 68 67 k67 v510 y509 [(⟨(rd_T67 x496002_2 0).f0, (rd_T67 x496002_2 0).f1, 0⟩ : S67)] Xo58 ([(⟨(rd_T67 x496002_2 0).f0, (rd_T67 x496002_2 0).f1, 0⟩ : S67)].length) ko58 HM rfl Try.underlying68 info67 rfl (HM.CR 6 rfl).2.2 (by have h_ := LMc46.out; simp only [List.length_singleton]; omega) (by simp) ?_ (ops := #[]) (hw := by rfl) (hs := (eval_of e62)) (hx := (eval_of e64)))
           clear HM
           intro v513 w59 HM
           exact hK.out _ _ ⟨v510, .slice Xo58 [(⟨(rd_T67 x496002_2 0).f0, (rd_T67 x496002_2 0).f1, 0⟩ : S67)].length ko58, v513, PUT ha 5 hb, (((HM.sF 4 rfl (hoff 7 rfl)).iF 4 rfl (hoff 7 rfl)).iT 6 rfl (hon 4 rfl)).pick [0, 1, 2, 3, 4, 5, 6]⟩
          refine SZ ?_ ?_
          ·rintro b a w ⟨v510, v50, v513, ha, HM⟩ hb hon hoff K hK
           replace ha := Aside0.mk ha
           have e9 := PG ha 9
           exact VL (.pointer (some ⟨gb495, 2, none⟩)) (hK.out _ _ ⟨v510, v50, v513, PUT ha 6 hb, HM⟩)
          refine SZ ?_ ?_
          ·rintro b a w ⟨v510, v50, v513, ha, HM⟩ hb hon hoff K hK
           replace ha := Aside0.mk ha
           replace HM := HM.sT 1 rfl (hon 5 rfl)
           replace HM := HM.sF 4 rfl hb
           obtain ⟨Xo60, ko60, rfl⟩ := HM.rd 1 rfl
           have e66 := PE ha 6 hon
           have e65 := PE ha 5 hon
           refine ST (eS 4 66 2 [.slice Xo60 (y509 ++ [(⟨(rd_T67 x496002_2 0).f0, (rd_T67 x496002_2 0).f1, 0⟩ : S67)]).length ko60] HM rfl rfl ?_ (hp := (eval_of e66)) (hx := (by rw [eval_of e65]; rfl)))
           clear HM
           intro w61 HM
           exact hK.out _ _ ⟨v510, v50, .slice Xo60 (y509 ++ [(⟨(rd_T67 x496002_2 0).f0, (rd_T67 x496002_2 0).f1, 0⟩ : S67)]).length ko60, PUS ha, (HM.iT 1 rfl (hon 5 rfl)).pick [0, 1, 2, 3, 4, 5, 6]⟩
          exact steps_nil
         rintro _ w62 ⟨v510, v50, v513, rfl, HM⟩
         replace HM := HM.sT 1 rfl rfl
         replace HM := HM.sT 4 rfl rfl
         replace HM := HM.sT 6 rfl rfl
         simp only [putSel, if_true, Act.put, List.setIfInBounds_toArray, List.set_cons_zero, List.set_cons_succ, gt_iff_lt, ge_iff_le]
         have H' := Aside0.mk H
         clear H
         go_wp2
         go_roundg k2
         case measure => have := HJ5.out; have := HK2.out; omega
         case rel => exact ⟨((y509 ++ [(⟨(rd_T67 x496002_2 0).f0, (rd_T67 x496002_2 0).f1, 0⟩ : S67)])), (v513), H', ⟨by have := HJ5.out; have := HK2.out; omega⟩, (MD HM).pick [0, 1, 2, 3, 4]⟩
        ·have c41b0 : (((rd_T67 x496002_2 0).f2) == 1) = false := beq_eq_false_iff_ne.mpr c41
         have c41b1 : (((rd_T67 x496002_2 0).f2) != 1) = true := bne_iff_ne.mpr c41
         first|rw [c41b0]|(simp only [i64_w, i32_w]; rw [c41b0])|skip
         replace H := GD H; obtain ⟨c63, H⟩ := H
         have LMc63 := Aside0.mk (show y496.length < 8796093022208 from c63)
         clear c63
         replace H := GD H; obtain ⟨c68, H⟩ := H
         have c68b0 := eq_true c68
         have c68b1 : decide (1 ≤ (x496002_2.length : Int)) = true := decide_eq_true c68
         clear c68
         replace H := BLt H; obtain ⟨y519, Ny519, H⟩ := H
         replace Ny519 := Aside0.mk Ny519
         replace H := GD H; obtain ⟨c72, H⟩ := H
         have LMc72 := Aside0.mk (show y519.length < 3518437208883 from c72)
         clear c72
         replace H := BN H; obtain ⟨⟨t525, t526, t527⟩, A79, H⟩ := H
         simp only [Option.some.injEq, Prod.mk.injEq] at H
         obtain ⟨rfl, rfl, rfl, rfl, rfl⟩ := H
         have p515 : 0 ≤ (0 : Int) := (by omega)
         have q515 : (0 : Int) < (x496002_2.length : Int) := of_decide_eq_true AS
         obtain ⟨ad515, e515, hx515_0, hx515_1, hx515_2⟩ := at_T67 (HM.C 1 rfl).2.2 0 p515 q515
         obtain rfl := Option.some.inj e515
         have qi515 : (0 < x496002_2.length) = True := eq_true (by omega)
         (try rw [show ((0 : Int)).toNat = 0 from rfl] at hx515_0)
         (try rw [show 0 * 3 = 0 from rfl] at hx515_0)
         (try rw [Addr.add_zero'] at hx515_0)
         (try rw [show ((0 : Int)).toNat = 0 from rfl] at hx515_1)
         (try rw [show 0 * 3 = 0 from rfl] at hx515_1)
         (try rw [Addr.add_zero'] at hx515_1)
         (try rw [show ((0 : Int)).toNat = 0 from rfl] at hx515_2)
         (try rw [show 0 * 3 = 0 from rfl] at hx515_2)
         (try rw [Addr.add_zero'] at hx515_2)
         replace p515 := eq_true p515
         replace q515 := eq_true q515
         go_wp2_with (first | ((with_reducible refine gN 73 rfl ?_); refine pL 73 Kd.string 9 [(rd_T67 x496002_2 0).f0] [.string ((rd_T67 x496002_2 0).f0)] (Reps.one (show Kd.M Kd.string _ _ _ ((rd_T67 x496002_2 0).f0) [.string ((rd_T67 x496002_2 0).f0)] from rfl) (Reps.none _ _)) HM rfl ?_; clear HM; intro v65 w64 HM; obtain ⟨Xv65, kv65, rfl⟩ := HM.rdR 5 rfl) | ((with_reducible refine gate_builtin (b := .append) (xs := #[.tmp 67, .tmp 73]) rfl ?_); refine pA 0 (.tmp 67) (.tmp 73) 23 9 Kd.string v497 y496 [(rd_T67 x496002_2 0).f0] Xv65 ([(rd_T67 x496002_2 0).f0].length) kv65 HM rfl Try.underlying23 info9 rfl (HM.CR 5 rfl).2.2 (by have h_ := LMc63.out; simp only [List.length_singleton]; omega) ?_; clear HM; intro v517 w66 HM; obtain ⟨_,_,_,_,_,_⟩ := bk3 (HM.bx 4 rfl)) | ((with_reducible refine gate_sl (t := 68) rfl ?_); refine pD 1 68 67 k67 _ _ 1 x496002_2 (some ad506) ko40 HM rfl Try.underlying68 info67 rfl (fun _ _ h => h) (by omega) (by have h_ : (1 : Int) ≤ ((x496002_2.length : Int) : Int) := of_decide_eq_true AS; first | exact h_ | (have e_ := (HM.C 1 rfl).1; omega)) ?_; clear HM; intro v520 HM; replace HM := HM.nmQ 1 rfl Ny519.out; obtain ⟨Xo69, ko69, rfl⟩ := HM.rd 1 rfl) | ((with_reducible refine gS 78 rfl ?_); refine pS 4 78 2 [.slice Xo69 y519.length ko69] HM rfl rfl ?_; clear HM; intro w70 HM; obtain ⟨_,_,_,_,_,_⟩ := bk3 (HM.bx 4 rfl)) | ((with_reducible refine gN 84 rfl ?_); refine pL 84 k67 67 [(⟨a1, a2, 0⟩ : S67)] [.string a1, .string a2, .int .i64 0] (Reps.c3 (show Kd.M k67 _ _ _ (⟨a1, a2, 0⟩ : S67) [.string a1, .string a2, .int .i64 0] from (k67_mkM _ _ _ (⟨a1, a2, 0⟩ : S67))) (Reps.none _ _)) HM rfl ?_; clear HM; intro v74 w73 HM; obtain ⟨Xv74, kv74, rfl⟩ := HM.rdR 6 rfl) | ((with_reducible refine gate_builtin (b := .append) (xs := #[.tmp 80, .tmp 84]) rfl ?_); refine pAq 1 (.tmp 80) (.tmp 84) 68 67 k67 (.slice Xo69 y519.length ko69) y519 [(⟨a1, a2, 0⟩ : S67)] Xv74 ([(⟨a1, a2, 0⟩ : S67)].length) kv74 HM rfl Try.underlying68 info67 rfl (HM.CR 6 rfl).2.2 (by have h_ := LMc72.out; simp only [List.length_singleton]; omega) (by simp) ?_; clear HM; intro v523 w75 HM; obtain ⟨Xo76, ko76, rfl⟩ := HM.rd 1 rfl) | ((with_reducible refine gS 86 rfl ?_); refine pS 4 86 2 [.slice Xo76 (y519 ++ [(⟨a1, a2, 0⟩ : S67)]).length ko76] HM rfl rfl ?_; clear HM; intro w77 HM; obtain ⟨_,_,_,_,_,_⟩ := bk3 (HM.bx 4 rfl)) | ((with_reducible refine gC 85 rfl ?_); refine pC (some 88) rfl #[.agg #[.int .i64 t490, .int .i64 t491, .slice Xo76 (y519 ++ [(⟨a1, a2, 0⟩ : S67)]).length ko76]] rfl Try.func85 (impl_copyRow.calls t490 t491 _ _ (y519 ++ [(⟨a1, a2, 0⟩ : S67)]) t525 t526 t527 _ (HM.C 1 rfl).2.2 (HM.C 1 rfl).2.1 A79.out) ?_; rintro e w80 ⟨v528, rfl, hR⟩; refine ⟨_, rfl, ?_⟩; replace HM := HM.call hR; clear hR; obtain ⟨Xo81, ko81, rfl⟩ := HM.rdR 7 rfl) | ((with_reducible refine gS 6 rfl ?_); refine pS 3 6 0 [.int .i64 t525, .int .i64 t526, .slice Xo81 t527.length ko81] HM rfl rfl ?_; clear HM; intro w82 HM))
         refine bodyPost_ret (results_ctt rfl _ _ gb487 75 #[.int .i64 t525, .int .i64 t526, .slice Xo81 t527.length ko81] (0, 0) _ rfl (HM.bx 3 rfl) Try.underlying75 rfl (by kernel_rfl)) rfl ?_
         exact ⟨_, _, ER, (MD HM).pick [7, 0]⟩
     ·have c37b0 : ((t492.length : Int) == t491) = false := beq_eq_false_iff_ne.mpr c37
      have c37b1 : ((t492.length : Int) != t491) = true := bne_iff_ne.mpr c37
      first|rw [c37b0]|(simp only [i64_w, i32_w]; rw [c37b0])|skip
      replace H := GD H; obtain ⟨c83, H⟩ := H
      have LMc83 := Aside0.mk (show t492.length < 3518437208883 from c83)
      clear c83
      replace H := BN H; obtain ⟨⟨t533, t534, t535⟩, A90, H⟩ := H
      simp only [Option.some.injEq, Prod.mk.injEq] at H
      obtain ⟨rfl, rfl, rfl, rfl, rfl⟩ := H
      go_wp2_with (first | ((with_reducible refine gN 84 rfl ?_); refine pL 84 k67 67 [(⟨a1, a2, 0⟩ : S67)] [.string a1, .string a2, .int .i64 0] (Reps.c3 (show Kd.M k67 _ _ _ (⟨a1, a2, 0⟩ : S67) [.string a1, .string a2, .int .i64 0] from (k67_mkM _ _ _ (⟨a1, a2, 0⟩ : S67))) (Reps.none _ _)) HM rfl ?_; clear HM; intro v85 w84 HM; obtain ⟨Xv85, kv85, rfl⟩ := HM.rdR 5 rfl) | ((with_reducible refine gate_builtin (b := .append) (xs := #[.tmp 80, .tmp 84]) rfl ?_); refine pA 2 (.tmp 80) (.tmp 84) 68 67 k67 (.slice Xo19 t492.length ko19) t492 [(⟨a1, a2, 0⟩ : S67)] Xv85 ([(⟨a1, a2, 0⟩ : S67)].length) kv85 HM rfl Try.underlying68 info67 rfl (HM.CR 5 rfl).2.2 (by have h_ := LMc83.out; simp only [List.length_singleton]; omega) ?_; clear HM; intro v531 w86 HM; obtain ⟨Xo87, ko87, rfl⟩ := HM.rdR 2 rfl) | ((with_reducible refine gS 86 rfl ?_); refine pS 3 86 2 [.slice Xo87 (t492 ++ [(⟨a1, a2, 0⟩ : S67)]).length ko87] HM rfl rfl ?_; clear HM; intro w88 HM; obtain ⟨_,_,_,_,_,_⟩ := bk3 (HM.bx 3 rfl)) | ((with_reducible refine gC 85 rfl ?_); refine pC (some 88) rfl #[.agg #[.int .i64 t490, .int .i64 t491, .slice Xo87 (t492 ++ [(⟨a1, a2, 0⟩ : S67)]).length ko87]] rfl Try.func85 (impl_copyRow.calls t490 t491 _ _ (t492 ++ [(⟨a1, a2, 0⟩ : S67)]) t533 t534 t535 _ (HM.CR 2 rfl).2.2 (HM.CR 2 rfl).2.1 A90.out) ?_; rintro e w91 ⟨v536, rfl, hR⟩; refine ⟨_, rfl, ?_⟩; replace HM := HM.call hR; clear hR; obtain ⟨Xo92, ko92, rfl⟩ := HM.rdR 6 rfl) | ((with_reducible refine gS 6 rfl ?_); refine pS 1 6 0 [.int .i64 t533, .int .i64 t534, .slice Xo92 t535.length ko92] HM rfl rfl ?_; clear HM; intro w93 HM))
      refine bodyPost_ret (results_ctt rfl _ _ gb487 75 #[.int .i64 t533, .int .i64 t534, .slice Xo92 t535.length ko92] (0, 0) _ rfl (HM.bx 1 rfl) Try.underlying75 rfl (by kernel_rfl)) rfl ?_
      exact ⟨_, _, ER, (MD HM).pick [6, 4]⟩
def impl_cache_ask.f (k : Nat) (a0_0 : Int) (a0_1 : Int) (l0_2 : List (S67)) (a0_3 : Int) (a0_4 : Int) (l0_5 : List (S67)) (l0_6 : List (S67)) (l0_7 : List Int) (a1 : ByteArray) : Option (Int × Int × (List (S67)) × Int × Int × (List (S67)) × (List (S67)) × List Int × Bool × Int) := if a0_3 > 0 then ((impl_Get.f k a0_3 a0_4 l0_5 l0_6 l0_7 a1).bind fun bt541 => (if bt541.2.2.2.2.2.2 = true then (some (a0_0, a0_1, l0_2, bt541.1, bt541.2.1, bt541.2.2.1, bt541.2.2.2.1, bt541.2.2.2.2.1, bt541.2.2.2.2.2.2, ((([] : List ByteArray)).length : Int))) else ((impl_Put.f k a0_3 a0_4 l0_5 l0_6 l0_7 a1 (⟨#[]⟩ : ByteArray)).bind fun bt558 => (some (a0_0, a0_1, l0_2, bt558.1, bt558.2.1, bt558.2.2.1, bt558.2.2.2.1, bt558.2.2.2.2.1, bt541.2.2.2.2.2.2, (bt558.2.2.2.2.2.1.length : Int)))))) else ((impl_RowGet.f k a0_0 a0_1 l0_2 a1).bind fun bt573 => (if bt573.2.2.2.2 = true then (some (bt573.1, bt573.2.1, bt573.2.2.1, a0_3, a0_4, l0_5, l0_6, l0_7, bt573.2.2.2.2, ((([] : List ByteArray)).length : Int))) else ((impl_RowPut.f k a0_0 a0_1 l0_2 a1 (⟨#[]⟩ : ByteArray)).bind fun bt584 => (some (bt584.1, bt584.2.1, bt584.2.2.1, a0_3, a0_4, l0_5, l0_6, l0_7, bt573.2.2.2.2, (bt584.2.2.2.1.length : Int))))))
theorem impl_cache_ask.calls (k : Nat) (g : Nat) (a0_0 : Int) (a0_1 : Int) (u9000_ : Value) (l0_2 : List (S67)) (a0_3 : Int) (a0_4 : Int) (u9001_ : Value) (l0_5 : List (S67)) (u9002_ : Value) (l0_6 : List (S67)) (u9003_ : Value) (l0_7 : List Int) (a1 : ByteArray) (r1 : Int) (r2 : Int) (r3 : List (S67)) (r4 : Int) (r5 : Int) (r6 : List (S67)) (r7 : List (S67)) (r8 : List Int) (r9 : Bool) (r10 : Int) (w0 w : World) (F : List SP)  (hM : Mem w0 F w [rowR k67 67 u9000_ l0_2, rowR k67 67 u9001_ l0_5, rowR k67 67 u9002_ l0_6, rowR (Kd.int .i64) 3 u9003_ l0_7, box 95 g [.int .i64 a0_0, .int .i64 a0_1, u9000_, .int .i64 a0_3, .int .i64 a0_4, u9001_, u9002_, u9003_]]) (h : impl_cache_ask.f k a0_0 a0_1 l0_2 a0_3 a0_4 l0_5 l0_6 l0_7 a1 = some (r1, r2, r3, r4, r5, r6, r7, r8, r9, r10)) :
  Calls Try.prog 46 #[.pointer (some ⟨g, 0, none⟩), .string a1] w fun e w' => ∃ v2_ v5_ v6_ v7_ : Value, e = .returned (.tuple #[.bool r9, .int .i64 r10]) ∧ Mem w0 F w' [rowR k67 67 v2_ r3, rowR k67 67 v5_ r6, rowR k67 67 v6_ r7, rowR (Kd.int .i64) 3 v7_ r8, box 95 g [.int .i64 r1, .int .i64 r2, v2_, .int .i64 r4, .int .i64 r5, v5_, v6_, v7_]] := by
 have hu71 := Try.underlying71
 have hu75 := Try.underlying75
 have HM := hM
 clear hM
 have H := h
 clear h
 unfold impl_cache_ask.f at H
 go_enter Try.func46, Try.ntmps46
 obtain ⟨_,_,_,_,_,_,_,_,_,_,_,_,_,_,_,_⟩ := bk8 (HM.bx 4 rfl)
 go_upto_if 19 with (fail)
 replace H := IT H; rcases H with ⟨c4, H⟩ | ⟨c4, H⟩
 ·have c4b0 : decide (0 < a0_3) = true := decide_eq_true c4
  clear c4
  first|rw [c4b0]|(simp only [i64_w, i32_w]; rw [c4b0])|skip
  replace H := BN H; obtain ⟨⟨t541, t542, t543, t546, t549, t552, t553⟩, A5, H⟩ := H
  obtain ⟨Xo7, ko7, rfl⟩ := HM.rdR 1 rfl
  obtain ⟨Xo8, ko8, rfl⟩ := HM.rdR 2 rfl
  obtain ⟨Xo9, ko9, rfl⟩ := HM.rdR 3 rfl
  go_upto_if 32 with (first | ((with_reducible refine gC 61 rfl ?_); refine pC (some 26) rfl #[.agg #[.int .i64 a0_3, .int .i64 a0_4, .slice Xo7 l0_5.length ko7, .slice Xo8 l0_6.length ko8, .slice Xo9 l0_7.length ko9], .string a1] rfl Try.func61 (impl_Get.calls k a0_3 a0_4 _ _ l0_5 _ _ l0_6 _ _ l0_7 a1 t541 t542 t543 t546 t549 t552 t553 _ (HM.CR 1 rfl).2.2 (HM.CR 1 rfl).2.1 (HM.CR 2 rfl).2.2 (HM.CR 2 rfl).2.1 (HM.CR 3 rfl).2.2 (HM.CR 3 rfl).2.1 A5.out) ?_; rintro e w6 ⟨v544, v547, v550, rfl, hR⟩; refine ⟨_, rfl, ?_⟩; replace HM := HM.call hR; clear hR) | ((with_reducible refine gN 6 rfl ?_); refine pB 6 71 [.int .i64 0, .int .i64 0, .slice none 0 0, .slice none 0 0, .slice none 0 0] HM rfl ?_; clear HM; intro gb554 w10 HM; obtain ⟨Xo11, ko11, rfl⟩ := HM.rdR 5 rfl; obtain ⟨Xo12, ko12, rfl⟩ := HM.rdR 6 rfl; obtain ⟨Xo13, ko13, rfl⟩ := HM.rdR 7 rfl) | ((with_reducible refine gS 6 rfl ?_); refine pS 8 6 0 [.int .i64 t541, .int .i64 t542, .slice Xo11 t543.length ko11, .slice Xo12 t546.length ko12, .slice Xo13 t549.length ko13] HM rfl rfl ?_; clear HM; intro w14 HM) | ((with_reducible refine gN 30 rfl ?_); refine pL 30 Kd.string 9 ([] : List ByteArray) [] (Reps.none _ _) HM rfl ?_; clear HM; intro v556 w15 HM))
  replace HM := nzM HM
  replace H := IB H
  rcases H with ⟨c16, H⟩ | ⟨c16, H⟩
  ·subst c16
   simp only [Option.some.injEq, Prod.mk.injEq] at H
   obtain ⟨rfl, rfl, rfl, rfl, rfl, rfl, rfl, rfl, rfl, rfl⟩ := H
   obtain ⟨_,_,_,_,_,_,_,_,_,_⟩ := bk5 (HM.bx 8 rfl)
   go_wp2_with (first | ((with_reducible refine gS 46 rfl ?_); refine pS 4 46 3 [.int .i64 t541, .int .i64 t542, .slice Xo11 t543.length ko11, .slice Xo12 t546.length ko12, .slice Xo13 t549.length ko13] HM rfl rfl ?_; clear HM; intro w18 HM; obtain ⟨Xo19, ko19, rfl⟩ := HM.rdR 9 rfl))
   go_ret2
   exact ⟨_, _, _, _, ER, (MD HM).pick [0, 5, 6, 7, 4]⟩
  ·subst c16
   replace H := BN H; obtain ⟨⟨t558, t559, t560, t563, t566, t569, t572⟩, A21, H⟩ := H
   simp only [Option.some.injEq, Prod.mk.injEq] at H
   obtain ⟨rfl, rfl, rfl, rfl, rfl, rfl, rfl, rfl, rfl, rfl⟩ := H
   obtain ⟨_,_,_,_,_,_,_,_,_,_,_,_,_,_,_,_⟩ := bk8 (HM.bx 4 rfl)
   go_wp2_with (first | ((with_reducible refine gC 62 rfl ?_); refine pC (some 39) rfl #[.agg #[.int .i64 a0_3, .int .i64 a0_4, .slice Xo7 l0_5.length ko7, .slice Xo8 l0_6.length ko8, .slice Xo9 l0_7.length ko9], .string a1, .string (⟨#[]⟩ : ByteArray)] rfl Try.func62 (impl_Put.calls k a0_3 a0_4 _ _ l0_5 _ _ l0_6 _ _ l0_7 a1 (⟨#[]⟩ : ByteArray) t558 t559 t560 t563 t566 t569 t572 _ (HM.CR 1 rfl).2.2 (HM.CR 1 rfl).2.1 (HM.CR 2 rfl).2.2 (HM.CR 2 rfl).2.1 (HM.CR 3 rfl).2.2 (HM.CR 3 rfl).2.1 A21.out) ?_; rintro e w22 ⟨v561, v564, v567, v570, rfl, hR⟩; refine ⟨_, rfl, ?_⟩; replace HM := HM.call hR; clear hR; obtain ⟨Xo23, ko23, rfl⟩ := HM.rdR 10 rfl; obtain ⟨Xo24, ko24, rfl⟩ := HM.rdR 11 rfl; obtain ⟨Xo25, ko25, rfl⟩ := HM.rdR 12 rfl) | ((with_reducible refine gS 6 rfl ?_); refine pS 8 6 0 [.int .i64 t558, .int .i64 t559, .slice Xo23 t560.length ko23, .slice Xo24 t563.length ko24, .slice Xo25 t566.length ko25] HM rfl rfl ?_; clear HM; intro w26 HM; obtain ⟨_,_,_,_,_,_,_,_,_,_⟩ := bk5 (HM.bx 8 rfl)) | ((with_reducible refine gS 46 rfl ?_); refine pS 4 46 3 [.int .i64 t558, .int .i64 t559, .slice Xo23 t560.length ko23, .slice Xo24 t563.length ko24, .slice Xo25 t566.length ko25] HM rfl rfl ?_; clear HM; intro w28 HM; obtain ⟨Xo29, ko29, rfl⟩ := HM.rdR 13 rfl))
   go_ret2
   exact ⟨_, _, _, _, ER, (MD HM).pick [0, 10, 11, 12, 4]⟩
 ·have c4b0 : decide (0 < a0_3) = false := decide_eq_false c4
  clear c4
  first|rw [c4b0]|(simp only [i64_w, i32_w]; rw [c4b0])|skip
  replace H := BN H; obtain ⟨⟨t573, t574, t575, t578, t579⟩, A30, H⟩ := H
  obtain ⟨Xo32, ko32, rfl⟩ := HM.rdR 0 rfl
  go_upto_if 62 with (first | ((with_reducible refine gC 63 rfl ?_); refine pC (some 56) rfl #[.agg #[.int .i64 a0_0, .int .i64 a0_1, .slice Xo32 l0_2.length ko32], .string a1] rfl Try.func63 (impl_RowGet.calls k a0_0 a0_1 _ _ l0_2 a1 t573 t574 t575 t578 t579 _ (HM.CR 0 rfl).2.2 (HM.CR 0 rfl).2.1 A30.out) ?_; rintro e w31 ⟨v576, rfl, hR⟩; refine ⟨_, rfl, ?_⟩; replace HM := HM.call hR; clear hR) | ((with_reducible refine gN 10 rfl ?_); refine pB 10 75 [.int .i64 0, .int .i64 0, .slice none 0 0] HM rfl ?_; clear HM; intro gb580 w33 HM; obtain ⟨Xo34, ko34, rfl⟩ := HM.rdR 5 rfl) | ((with_reducible refine gS 10 rfl ?_); refine pS 6 10 0 [.int .i64 t573, .int .i64 t574, .slice Xo34 t575.length ko34] HM rfl rfl ?_; clear HM; intro w35 HM) | ((with_reducible refine gN 60 rfl ?_); refine pL 60 Kd.string 9 ([] : List ByteArray) [] (Reps.none _ _) HM rfl ?_; clear HM; intro v582 w36 HM))
  replace HM := nzM HM
  replace H := IB H
  rcases H with ⟨c37, H⟩ | ⟨c37, H⟩
  ·subst c37
   simp only [Option.some.injEq, Prod.mk.injEq] at H
   obtain ⟨rfl, rfl, rfl, rfl, rfl, rfl, rfl, rfl, rfl, rfl⟩ := H
   obtain ⟨_,_,_,_,_,_⟩ := bk3 (HM.bx 6 rfl)
   go_wp2_with (first | ((with_reducible refine gS 76 rfl ?_); refine pS 4 76 0 [.int .i64 t573, .int .i64 t574, .slice Xo34 t575.length ko34] HM rfl rfl ?_; clear HM; intro w39 HM; obtain ⟨Xo40, ko40, rfl⟩ := HM.rdR 7 rfl))
   go_ret2
   exact ⟨_, _, _, _, ER, (MD HM).pick [5, 1, 2, 3, 4]⟩
  ·subst c37
   replace H := BN H; obtain ⟨⟨t584, t585, t586, t589, t592⟩, A42, H⟩ := H
   simp only [Option.some.injEq, Prod.mk.injEq] at H
   obtain ⟨rfl, rfl, rfl, rfl, rfl, rfl, rfl, rfl, rfl, rfl⟩ := H
   obtain ⟨_,_,_,_,_,_,_,_,_,_,_,_,_,_,_,_⟩ := bk8 (HM.bx 4 rfl)
   go_wp2_with (first | ((with_reducible refine gC 64 rfl ?_); refine pC (some 69) rfl #[.agg #[.int .i64 a0_0, .int .i64 a0_1, .slice Xo32 l0_2.length ko32], .string a1, .string (⟨#[]⟩ : ByteArray)] rfl Try.func64 (impl_RowPut.calls k a0_0 a0_1 _ _ l0_2 a1 (⟨#[]⟩ : ByteArray) t584 t585 t586 t589 t592 _ (HM.CR 0 rfl).2.2 (HM.CR 0 rfl).2.1 A42.out) ?_; rintro e w43 ⟨v587, v590, rfl, hR⟩; refine ⟨_, rfl, ?_⟩; replace HM := HM.call hR; clear hR; obtain ⟨Xo44, ko44, rfl⟩ := HM.rdR 8 rfl) | ((with_reducible refine gS 10 rfl ?_); refine pS 6 10 0 [.int .i64 t584, .int .i64 t585, .slice Xo44 t586.length ko44] HM rfl rfl ?_; clear HM; intro w45 HM; obtain ⟨_,_,_,_,_,_⟩ := bk3 (HM.bx 6 rfl)) | ((with_reducible refine gS 76 rfl ?_); refine pS 4 76 0 [.int .i64 t584, .int .i64 t585, .slice Xo44 t586.length ko44] HM rfl rfl ?_; clear HM; intro w47 HM; obtain ⟨Xo48, ko48, rfl⟩ := HM.rdR 9 rfl))
   go_ret2
   exact ⟨_, _, _, _, ER, (MD HM).pick [8, 1, 2, 3, 4]⟩
def impl_asked.l0 : Nat → List Bool → Int → List ByteArray → Int → Int → Int → Int → List (S67) → Int → Int → List (S67) → List (S67) → List Int → Option (Int × Int × (List (S67)) × Int × Int × (List (S67)) × (List (S67)) × List Int × List Bool × Int)
 | 0, _, _, _, _, _, _, _, _, _, _, _, _, _ => none
 | k + 1, x8, x9, x17, x18, x19, x611000, x611001, x611002, x611003, x611004, x611005, x611006, x611007 => if x19 < x18 then (if 0 ≤ x19 then (if x19 < (x17.length : Int) then ((impl_cache_ask.f k x611000 x611001 x611002 x611003 x611004 x611005 x611006 x611007 (rdOf ByteArray.empty x17 x19)).bind fun bt615 => (if x8.length < 140737488355328 then (impl_asked.l0 k (x8 ++ [bt615.2.2.2.2.2.2.2.2.1]) (wrap64 (x9 + bt615.2.2.2.2.2.2.2.2.2)) x17 x18 (wrap64 (x19 + 1)) bt615.1 bt615.2.1 bt615.2.2.1 bt615.2.2.2.1 bt615.2.2.2.2.1 bt615.2.2.2.2.2.1 bt615.2.2.2.2.2.2.1 bt615.2.2.2.2.2.2.2.1) else (none))) else (none)) else (none)) else (some (x611000, x611001, x611002, x611003, x611004, x611005, x611006, x611007, x8, x9))
def impl_asked.f (k : Nat) (a0_0 : Int) (a0_1 : Int) (a0_2 : Int) (l1 : List ByteArray) : Option (Int × Int × (List (S67)) × Int × Int × (List (S67)) × (List (S67)) × List Int × List Bool × Int) := (impl_cacheOf.f k a0_0 a0_1 a0_2).bind fun bt594 => (impl_asked.l0 k (([] : List Bool)) 0 l1 (l1.length : Int) 0 bt594.1 bt594.2.1 bt594.2.2.1 bt594.2.2.2.1 bt594.2.2.2.2.1 bt594.2.2.2.2.2.1 bt594.2.2.2.2.2.2.1 bt594.2.2.2.2.2.2.2)
theorem impl_asked.calls (k : Nat) (a0_0 : Int) (a0_1 : Int) (a0_2 : Int) (A1 : Option Addr) (c1 : Nat) (l1 : List ByteArray) (r1 : Int) (r2 : Int) (r3 : List (S67)) (r4 : Int) (r5 : Int) (r6 : List (S67)) (r7 : List (S67)) (r8 : List Int) (r9 : List Bool) (r10 : Int) (w : World) (hr1 : Kd.C Kd.string w A1 l1.length l1) (hc1 : l1.length ≤ c1) (h : impl_asked.f k a0_0 a0_1 a0_2 l1 = some (r1, r2, r3, r4, r5, r6, r7, r8, r9, r10)) :
  Calls Try.prog 31 #[.agg #[.int .i64 a0_0, .int .i64 a0_1, .int .i64 a0_2], .slice A1 l1.length c1] w fun e w' => ∃ v2_ v5_ v6_ v7_ v8_ : Value, ∃ g_ : Nat, e = .returned (.tuple #[.pointer (some ⟨g_, 0, none⟩), v8_, .int .i64 r10]) ∧ Mem w [] w' [rowR k67 67 v2_ r3, rowR k67 67 v5_ r6, rowR k67 67 v6_ r7, rowR (Kd.int .i64) 3 v7_ r8, rowR Kd.bool 4 v8_ r9, box 95 g_ [.int .i64 r1, .int .i64 r2, v2_, .int .i64 r4, .int .i64 r5, v5_, v6_, v7_]] := by
 have hu31 := Try.underlying31
 have HR1 := Aside0.mk hr1
 have HC1 := Aside0.mk hc1
 clear hr1 hc1
 have HM := Mem.nil w
 have H := h
 clear h
 unfold impl_asked.f at H
 go_enter Try.func31, Try.ntmps31
 replace H := BN H; obtain ⟨⟨t594, t595, t596, t599, t600, t601, t604, t607⟩, A5, H⟩ := H
 have H' := Aside0.mk H
 clear H
 go_wp2_with (first | ((with_reducible refine gN 2 rfl ?_); refine pB 2 31 [.int .i64 a0_0, .int .i64 a0_1, .int .i64 a0_2] HM rfl ?_; clear HM; intro gb593 w3 HM; obtain ⟨_,_,_,_,_,_⟩ := bk3 (HM.bx 0 rfl)) | ((with_reducible refine gC 45 rfl ?_); refine pC (some 15) rfl #[.agg #[.int .i64 a0_0, .int .i64 a0_1, .int .i64 a0_2]] rfl Try.func45 (impl_cacheOf.calls k a0_0 a0_1 a0_2 t594 t595 t596 t599 t600 t601 t604 t607 _ A5.out) ?_; rintro e w6 ⟨v597, v602, v605, v608, gb610, rfl, hR⟩; refine ⟨_, rfl, ?_⟩; replace HM := HM.call hR; clear hR) | ((with_reducible refine gN 16 rfl ?_); refine pL 16 Kd.bool 4 ([] : List Bool) [] (Reps.none _ _) HM rfl ?_; clear HM; intro v612 w7 HM))
 go_loopg [8, 9, 19] k (fun kq v8 v9 v19 w' => ∃ (x8_1 : List Bool) (x9_1 : Int) (x19_1 : Int) (x611000_1 : Int) (x611001_1 : Int) (x611002_1 : List (S67)) (x611003_1 : Int) (x611004_1 : Int) (x611005_1 : List (S67)) (x611006_1 : List (S67)) (x611007_1 : List Int) (u611002 : Value) (u611005 : Value) (u611006 : Value) (u611007 : Value), v9 = .int .i64 x9_1 ∧ v19 = .int .i64 x19_1 ∧ Aside0 (impl_asked.l0 kq x8_1 x9_1 l1 (l1.length : Int) x19_1 x611000_1 x611001_1 x611002_1 x611003_1 x611004_1 x611005_1 x611006_1 x611007_1 = some (r1, r2, r3, r4, r5, r6, r7, r8, r9, r10)) ∧ Aside0 (kq ≤ k) ∧ Mem w [] w' [rowR Kd.bool 4 v8 x8_1, rowR k67 67 u611002 x611002_1, rowR k67 67 u611005 x611005_1, rowR k67 67 u611006 x611006_1, rowR (Kd.int .i64) 3 u611007 x611007_1, box 31 gb593 [.int .i64 a0_0, .int .i64 a0_1, .int .i64 a0_2], box 95 gb610 [.int .i64 x611000_1, .int .i64 x611001_1, u611002, .int .i64 x611003_1, .int .i64 x611004_1, u611005, u611006, u611007]])
 case atStart => exact ⟨((([] : List Bool))), (0), (0), (t594), (t595), (t596), (t599), (t600), (t601), (t604), (t607), (v597), (v602), (v605), (v608), RS, RS, H', ⟨Nat.le_refl _⟩, (MD HM).pick [6, 1, 2, 3, 4, 0, 5]⟩
 case round =>
  clear H' HM
  obtain ⟨x8_1, x9_1, x19_1, x611000_1, x611001_1, x611002_1, x611003_1, x611004_1, x611005_1, x611006_1, x611007_1, u611002, u611005, u611006, u611007, rfl, rfl, HA, HK1, HM⟩ := hrel
  cases gk with
  | zero => exact absurd HA.out (by simp [impl_asked.l0])
  | succ k1 =>
   have H := HA.out
   clear HA
   simp only [impl_asked.l0] at H
   go_upto_if 20 with (fail)
   replace H := IT H; rcases H with ⟨c8, H⟩ | ⟨c8, H⟩
   ·have c8b0 : decide (x19_1 < (l1.length : Int)) = true := decide_eq_true c8
    clear c8
    first|rw [c8b0]|(simp only [i64_w, i32_w]; rw [c8b0])|skip
    replace H := GD H; obtain ⟨c9, H⟩ := H
    have c9b0 : decide (0 ≤ x19_1) = true := decide_eq_true c9
    clear c9
    replace H := GD H; obtain ⟨c10, H⟩ := H
    have c10b0 : decide (x19_1 < (l1.length : Int)) = true := decide_eq_true c10
    clear c10
    replace H := BN H; obtain ⟨⟨t615, t616, t617, t620, t621, t622, t625, t628, t631, t632⟩, A11, H⟩ := H
    replace H := GD H; obtain ⟨c13, H⟩ := H
    have LMc13 := Aside0.mk c13
    clear c13
    have H' := Aside0.mk H
    clear H
    have p614 : 0 ≤ (x19_1 : Int) := of_decide_eq_true AS
    have q614 : (x19_1 : Int) < (l1.length : Int) := of_decide_eq_true AS
    obtain ⟨ad614, e614, hx614_0⟩ := Kd.at_string (HM.came HR1.out) x19_1 p614 q614
    cases e614
    replace p614 := eq_true p614
    replace q614 := eq_true q614
    go_wp2_with (first | ((with_reducible refine gC 46 rfl ?_); refine pC (some 26) rfl #[.pointer (some ⟨gb610, 0, none⟩), .string (rdOf ByteArray.empty l1 x19_1)] rfl Try.func46 (impl_cache_ask.calls k1 gb610 x611000_1 x611001_1 u611002 x611002_1 x611003_1 x611004_1 u611005 x611005_1 u611006 x611006_1 u611007 x611007_1 (rdOf ByteArray.empty l1 x19_1) t615 t616 t617 t620 t621 t622 t625 t628 t631 t632 _ _ _ (HM.focus [0, 5] [1, 2, 3, 4, 6]) A11.out) ?_; rintro e w12 ⟨v618, v623, v626, v629, rfl, hR⟩; refine ⟨_, rfl, ?_⟩; replace HM := nzM hR.unfocus; clear hR) | ((with_reducible refine gN 31 rfl ?_); refine pL 31 Kd.bool 4 [t631] [.bool t631] (Reps.one (show Kd.M Kd.bool _ _ _ t631 [.bool t631] from rfl) (Reps.none _ _)) HM rfl ?_; clear HM; intro v15 w14 HM; obtain ⟨Xv15, kv15, rfl⟩ := HM.rdR 7 rfl) | ((with_reducible refine gate_builtin (b := .append) (xs := #[.tmp 29, .tmp 31]) rfl ?_); refine pA 0 (.tmp 29) (.tmp 31) 57 4 Kd.bool u8 x8_1 [t631] Xv15 ([t631].length) kv15 HM rfl Try.underlying57 info4 rfl (HM.CR 7 rfl).2.2 (by have h_ := LMc13.out; simp only [List.length_singleton]; omega) ?_; clear HM; intro v634 w16 HM))
    go_roundg k1
    case measure => have := HK1.out; omega
    case rel => exact ⟨((x8_1 ++ [t631])), (wrap64 (x9_1 + t632)), (wrap64 (x19_1 + 1)), (t615), (t616), (t617), (t620), (t621), (t622), (t625), (t628), (v618), (v623), (v626), (v629), RS, RS, H', ⟨by have := HK1.out; omega⟩, (MD HM).pick [0, 2, 3, 4, 5, 1, 6]⟩
   ·have c8b0 : decide (x19_1 < (l1.length : Int)) = false := decide_eq_false c8
    clear c8
    first|rw [c8b0]|(simp only [i64_w, i32_w]; rw [c8b0])|skip
    simp only [Option.some.injEq, Prod.mk.injEq] at H
    obtain ⟨rfl, rfl, rfl, rfl, rfl, rfl, rfl, rfl, rfl, rfl⟩ := H
    go_wp2
    go_ret3
    exact ⟨_, _, _, _, _, _, ER, (MD HM).pick [1, 2, 3, 4, 0, 6]⟩
def impl_CountOf.j0 : Nat → List ByteArray → Bool → Int → Int → Int → Option (Int × Int × Int × Int)
 | 0, _, _, _, _, _ => none
 | k + 1, x1, x16, x639000, x639001, x639002 => if x16 = true then (some (0, 0, 0, 0)) else ((impl_asked.f k x639000 x639001 x639002 x1).bind fun bt642 => ((impl_hitsIn.f k bt642.2.2.2.2.2.2.2.2.1).bind fun t663 => (some ((x1.length : Int), t663, wrap64 ((x1.length : Int) - t663), bt642.2.2.2.2.2.2.2.2.2))))
def impl_CountOf.f (k : Nat) (a0_0 : Int) (a0_1 : Int) (a0_2 : Int) (l1 : List ByteArray) : Option (Int × Int × Int × Int) := (impl_SetupOk.f k a0_0 a0_1 a0_2).bind fun t640 => (if t640 = true then ((impl_AsksOk.f k l1).bind fun t641 => (impl_CountOf.j0 k l1 (!t641) a0_0 a0_1 a0_2)) else (impl_CountOf.j0 k l1 true a0_0 a0_1 a0_2))
theorem impl_CountOf.calls (k : Nat) (a0_0 : Int) (a0_1 : Int) (a0_2 : Int) (A1 : Option Addr) (c1 : Nat) (l1 : List ByteArray) (r1 : Int) (r2 : Int) (r3 : Int) (r4 : Int) (w : World) (hr1 : Kd.C Kd.string w A1 l1.length l1) (hc1 : l1.length ≤ c1) (h : impl_CountOf.f k a0_0 a0_1 a0_2 l1 = some (r1, r2, r3, r4)) :
  Calls Try.prog 11 #[.agg #[.int .i64 a0_0, .int .i64 a0_1, .int .i64 a0_2], .slice A1 l1.length c1] w fun e w' => e = .returned (.agg #[.int .i64 r1, .int .i64 r2, .int .i64 r3, .int .i64 r4]) ∧ Mem w [] w' [] := by
 have hu31 := Try.underlying31
 have hu35 := Try.underlying35
 have HR1 := Aside0.mk hr1
 have HC1 := Aside0.mk hc1
 clear hr1 hc1
 have HM := Mem.nil w
 have H := h
 clear h
 unfold impl_CountOf.f at H
 go_enter Try.func11, Try.ntmps11
 have HC5 := Aside0.mk H
 clear H
 go_upto_region 1 with (first | ((with_reducible refine gN 2 rfl ?_); refine pB 2 31 [.int .i64 a0_0, .int .i64 a0_1, .int .i64 a0_2] HM rfl ?_; clear HM; intro gb638 w3 HM) | ((with_reducible refine gN 4 rfl ?_); refine pB 4 35 [.int .i64 0, .int .i64 0, .int .i64 0, .int .i64 0] HM rfl ?_; clear HM; intro gb639 w4 HM))
 replace HM := nzM HM
 try simp only [Act.put, List.setIfInBounds_toArray, List.set_cons_zero, List.set_cons_succ]
 go_cut [16] (fun v16 wc => ∃ (kq : Nat) (x16_4 : Bool), v16 = .bool x16_4 ∧ Aside0 (impl_CountOf.j0 kq l1 x16_4 a0_0 a0_1 a0_2 = some (r1, r2, r3, r4)) ∧ Aside0 (kq ≤ k) ∧ Mem w [] wc [box 31 gb638 [.int .i64 a0_0, .int .i64 a0_1, .int .i64 a0_2], box 35 gb639 [.int .i64 0, .int .i64 0, .int .i64 0, .int .i64 0]])
 case first =>
  have H := HC5.out
  clear HC5
  replace H := BN H; obtain ⟨t640, A7, H⟩ := H
  replace H := IB H
  rcases H with ⟨c9, H⟩ | ⟨c9, H⟩
  ·subst c9
   replace H := BN H; obtain ⟨t641, A10, H⟩ := H
   have H' := Aside0.mk H
   clear H
   obtain ⟨_,_,_,_,_,_⟩ := bk3 (HM.bx 0 rfl)
   go_wp2_with (first | ((with_reducible refine gC 30 rfl ?_); refine pC (some 10) rfl #[.agg #[.int .i64 a0_0, .int .i64 a0_1, .int .i64 a0_2]] rfl Try.func30 (impl_SetupOk.calls k a0_0 a0_1 a0_2 true _ A7.out) ?_; rintro e w8 ⟨rfl, hR⟩; refine ⟨_, rfl, ?_⟩; replace HM := HM.call hR; clear hR) | ((with_reducible refine gC 27 rfl ?_); refine pC (some 14) rfl #[.slice A1 l1.length c1] rfl Try.func27 (impl_AsksOk.calls k _ _ l1 t641 _ (HM.came HR1.out) HC1.out A10.out) ?_; rintro e w11 ⟨rfl, hR⟩; refine ⟨_, rfl, ?_⟩; replace HM := HM.call hR; clear hR))
   go_meet
   case rel => exact ⟨_, (!t641), RS, H', ⟨by first | omega | exact Nat.le_refl _⟩, (MD HM).pick [0, 1]⟩
  ·subst c9
   have H' := Aside0.mk H
   clear H
   obtain ⟨_,_,_,_,_,_⟩ := bk3 (HM.bx 0 rfl)
   go_wp2_with (first | ((with_reducible refine gC 30 rfl ?_); refine pC (some 10) rfl #[.agg #[.int .i64 a0_0, .int .i64 a0_1, .int .i64 a0_2]] rfl Try.func30 (impl_SetupOk.calls k a0_0 a0_1 a0_2 false _ A7.out) ?_; rintro e w8 ⟨rfl, hR⟩; refine ⟨_, rfl, ?_⟩; replace HM := HM.call hR; clear hR))
   go_meet
   case rel => exact ⟨_, (true), RS, H', ⟨by first | omega | exact Nat.le_refl _⟩, (MD HM).pick [0, 1]⟩
 case rest =>
  clear HC5 HM
  obtain ⟨kq, x16_4, rfl, HA, HJ4, HM⟩ := hcut
  cases kq with
  | zero => exact absurd HA.out (by simp [impl_CountOf.j0])
  | succ kj4 =>
   have H := HA.out
   clear HA
   simp only [impl_CountOf.j0] at H
   go_upto_if 16 with (fail)
   replace H := IB H
   rcases H with ⟨c12, H⟩ | ⟨c12, H⟩
   ·subst c12
    simp only [Option.some.injEq, Prod.mk.injEq] at H
    obtain ⟨rfl, rfl, rfl, rfl⟩ := H
    go_wp2_with (first | ((with_reducible refine gS 4 rfl ?_); refine pS 1 4 0 [.int .i64 0, .int .i64 0, .int .i64 0, .int .i64 0] HM rfl rfl ?_; clear HM; intro w13 HM))
    refine bodyPost_ret (results_cell_row rfl _ _ gb639 35 #[.int .i64 0, .int .i64 0, .int .i64 0, .int .i64 0] (0, 0) _ rfl (HM.bx 1 rfl) Try.underlying35 rfl (by kernel_rfl)) rfl ?_
    exact ⟨ER, (MD HM).pick []⟩
   ·subst c12
    replace H := BN H; obtain ⟨⟨t642, t643, t644, t647, t648, t649, t652, t655, t658, t661⟩, A15, H⟩ := H
    replace H := BN H; obtain ⟨t663, A17, H⟩ := H
    simp only [Option.some.injEq, Prod.mk.injEq] at H
    obtain ⟨rfl, rfl, rfl, rfl⟩ := H
    obtain ⟨_,_,_,_,_,_⟩ := bk3 (HM.bx 0 rfl)
    go_wp2_with (first | ((with_reducible refine gC 31 rfl ?_); refine pC (some 21) rfl #[.agg #[.int .i64 a0_0, .int .i64 a0_1, .int .i64 a0_2], .slice A1 l1.length c1] rfl Try.func31 (impl_asked.calls kj4 a0_0 a0_1 a0_2 _ _ l1 t642 t643 t644 t647 t648 t649 t652 t655 t658 t661 _ (HM.came HR1.out) HC1.out A15.out) ?_; rintro e w16 ⟨v645, v650, v653, v656, v659, gb662, rfl, hR⟩; refine ⟨_, rfl, ?_⟩; replace HM := HM.call hR; clear hR; obtain ⟨Xo19, ko19, rfl⟩ := HM.rdR 6 rfl) | ((with_reducible refine gC 32 rfl ?_); refine pC (some 26) rfl #[.slice Xo19 t658.length ko19] rfl Try.func32 (impl_hitsIn.calls kj4 _ _ t658 t663 _ (HM.CR 6 rfl).2.2 (HM.CR 6 rfl).2.1 A17.out) ?_; rintro e w18 ⟨rfl, hd⟩; refine ⟨_, rfl, ?_⟩; replace HM := HM.drawn hd; clear hd) | ((with_reducible refine gS 4 rfl ?_); refine pS 1 4 0 [.int .i64 (l1.length : Int), .int .i64 t663, .int .i64 (wrap64 ((l1.length : Int) - t663)), .int .i64 t661] HM rfl rfl ?_; clear HM; intro w20 HM))
    refine bodyPost_ret (results_cell_row rfl _ _ gb639 35 #[.int .i64 (l1.length : Int), .int .i64 t663, .int .i64 (wrap64 ((l1.length : Int) - t663)), .int .i64 t661] (0, 0) _ rfl (HM.bx 1 rfl) Try.underlying35 rfl (by kernel_rfl)) rfl ?_
    exact ⟨ER, (MD HM).pick []⟩
mutual
def impl_Lab.j0 : Nat → List ByteArray → Int → List (S33) → Bool → Option ((List (S33)))
 | 0, _, _, _, _ => none
 | k + 1, x0, x1, x5, x17 => if x17 = true then (some x5) else ((impl_BestMisses.f k x0 x1).bind fun t704 => ((some (([(⟨1, x1, 0⟩ : S31), (⟨2, x1, 0⟩ : S31), (⟨3, x1, 0⟩ : S31), (⟨4, x1, mx 1 (wrap64 (Int.tdiv x1 10))⟩ : S31)] : List (S31)) : List (S31))).bind fun y705 => (impl_Lab.l0 k x0 x5 t704 y705 (y705.length : Int) 0)))
def impl_Lab.l0 : Nat → List ByteArray → List (S33) → Int → List (S31) → Int → Int → Option ((List (S33)))
 | 0, _, _, _, _, _, _ => none
 | k + 1, x0, x5, x6, x33, x34, x35 => if x35 < x34 then (if 0 ≤ x35 then (if x35 < (x33.length : Int) then ((impl_CountOf.f k ((rd_T31 x33 x35).f0) ((rd_T31 x33 x35).f1) ((rd_T31 x33 x35).f2) x0).bind fun bt710 => (if x5.length < 3518437208883 then (impl_Lab.l0 k x0 (x5 ++ [(⟨(⟨(rd_T31 x33 x35).f0, (rd_T31 x33 x35).f1, (rd_T31 x33 x35).f2⟩ : S31), bt710.2.2.1, x6⟩ : S33)]) x6 x33 x34 (wrap64 (x35 + 1))) else (none))) else (none)) else (none)) else (some x5)
end
def impl_Lab.f (k : Nat) (l0 : List ByteArray) (a1 : Int) : Option ((List (S33))) := (some (([] : List (S33)) : List (S33))).bind fun y699 => ((impl_AsksOk.f k l0).bind fun t702 => (if t702 = true then ((impl_within.f a1 1 60).bind fun t703 => (impl_Lab.j0 k l0 a1 y699 (!t703))) else (impl_Lab.j0 k l0 a1 y699 true)))
def impl_Lab.T8 : Bool × List (List Nat × List Nat) := (true, [([], []), ([], []), ([], []), ([], []), ([2, 3], [2, 3]), ([4], [4]), ([], []), ([1, 5, 6], [1, 5, 6]), ([7], [7]), ([0, 8, 4], [0, 8]), ([9, 9, 0, 1, 2, 3, 4, 5, 6, 7, 8, 9], [0, 9])])
def impl_Lab.B8 : List Nat := [0, 0, 0, 0, 12, 28, 0, 126, 254, 511, 1023]
theorem impl_Lab.tab8 : rtab .any (opsOf Try.f8 8) = impl_Lab.T8 := by kernel_rfl
theorem impl_Lab.bits8 : waitsOk impl_Lab.T8.2 impl_Lab.B8 = true := by kernel_rfl
theorem impl_Lab.calls (k : Nat) (A0 : Option Addr) (c0 : Nat) (l0 : List ByteArray) (a1 : Int) (r : List (S33)) (w : World) (hr0 : Kd.C Kd.string w A0 l0.length l0) (hc0 : l0.length ≤ c0) (h : impl_Lab.f k l0 a1 = some r) :
  Calls Try.prog 8 #[.slice A0 l0.length c0, .int .i64 a1] w fun e w' => ∃ v0_ : Value, e = .returned (v0_) ∧ Mem w [] w' [rowR k33 33 v0_ r] := by
 have hu31 := Try.underlying31
 have hfd35_2 : ∀ (x0 x1 x2 x3 : Value) (w : World), Sem.run Try.prog (Instr.field 35 (.agg #[x0, x1, x2, x3]) 2) w = .ok x2 w := fun _ _ _ _ _ => rfl
 have hu33 := Try.underlying33
 have HR0 := Aside0.mk hr0
 have HC0 := Aside0.mk hc0
 clear hr0 hc0
 have HM := Mem.nil w
 have H := h
 clear h
 unfold impl_Lab.f at H
 go_enter Try.func8, Try.ntmps8
 replace H := BLt H; obtain ⟨y699, Ny699, H⟩ := H
 replace Ny699 := Aside0.mk Ny699
 have HC4 := Aside0.mk H
 clear H
 go_upto_region 2 with (first | ((with_reducible refine gN 9 rfl ?_); refine pL 9 k33 33 ([] : List (S33)) [] (Reps.none _ _) HM rfl ?_; clear HM; intro v700 w3 HM; replace HM := HM.nm 0 rfl Ny699.out))
 go_cut [17] (fun v17 wc => ∃ (kq : Nat) (x17_3 : Bool), v17 = .bool x17_3 ∧ Aside0 (impl_Lab.j0 kq l0 a1 y699 x17_3 = some r) ∧ Aside0 (kq ≤ k) ∧ Mem w [] wc [rowR k33 33 v700 y699])
 case first =>
  have H := HC4.out
  clear HC4
  replace H := BN H; obtain ⟨t702, A5, H⟩ := H
  replace H := IB H
  rcases H with ⟨c7, H⟩ | ⟨c7, H⟩
  ·subst c7
   replace H := BN H; obtain ⟨t703, A8, H⟩ := H
   have H' := Aside0.mk H
   clear H
   go_wp2_with (first | ((with_reducible refine gC 27 rfl ?_); refine pC (some 11) rfl #[.slice A0 l0.length c0] rfl Try.func27 (impl_AsksOk.calls k _ _ l0 true _ (HM.came HR0.out) HC0.out A5.out) ?_; rintro e w6 ⟨rfl, hR⟩; refine ⟨_, rfl, ?_⟩; replace HM := HM.call hR; clear hR) | ((with_reducible refine gC 28 rfl ?_); refine pC (some 15) rfl #[.int .i64 a1, .int .i64 1, .int .i64 60] rfl Try.func28 (impl_within.calls a1 1 60 t703 _ A8.out) ?_; rintro e w9 ⟨rfl, hd⟩; refine ⟨_, rfl, ?_⟩; replace HM := HM.drawn hd; clear hd))
   go_meet
   case rel => exact ⟨_, (!t703), RS, H', ⟨by first | omega | exact Nat.le_refl _⟩, (MD HM).pick [0]⟩
  ·subst c7
   have H' := Aside0.mk H
   clear H
   go_wp2_with (first | ((with_reducible refine gC 27 rfl ?_); refine pC (some 11) rfl #[.slice A0 l0.length c0] rfl Try.func27 (impl_AsksOk.calls k _ _ l0 false _ (HM.came HR0.out) HC0.out A5.out) ?_; rintro e w6 ⟨rfl, hR⟩; refine ⟨_, rfl, ?_⟩; replace HM := HM.call hR; clear hR))
   go_meet
   case rel => exact ⟨_, (true), RS, H', ⟨by first | omega | exact Nat.le_refl _⟩, (MD HM).pick [0]⟩
 case rest =>
  clear HC4 HM
  obtain ⟨kq, x17_3, rfl, HA, HJ3, HM⟩ := hcut
  cases kq with
  | zero => exact absurd HA.out (by simp [impl_Lab.j0])
  | succ kj3 =>
   have H := HA.out
   clear HA
   simp only [impl_Lab.j0] at H
   go_upto_if 17 with (fail)
   replace H := IB H
   rcases H with ⟨c10, H⟩ | ⟨c10, H⟩
   ·subst c10
    obtain rfl := Option.some.inj H
    go_wp2
    go_ret
    exact ⟨_, ER, (MD HM).pick [0]⟩
   ·subst c10
    replace H := BN H; obtain ⟨t704, A11, H⟩ := H
    obtain ⟨ji13, hji13⟩ : ∃ j_ : Int, (mx 1 (wrap64 (Int.tdiv a1 10))) = j_ := ⟨_, rfl⟩
    (first | rw [hji13] at H | simp only [hji13] at H | skip)
    have hji13_ : (if 1 < (wrap64 (Int.tdiv a1 10)) then (wrap64 (Int.tdiv a1 10)) else 1) = ji13 := hji13
    replace H := BLt H; obtain ⟨y705, Ny705, H⟩ := H
    replace Ny705 := Aside0.mk Ny705
    have H' := Aside0.mk H
    clear H
    go_wp2_with (first | ((with_reducible refine gC 12 rfl ?_); refine pC (some 21) rfl #[.slice A0 l0.length c0, .int .i64 a1] rfl Try.func12 (impl_BestMisses.calls kj3 _ _ l0 a1 t704 _ (HM.came HR0.out) HC0.out A11.out) ?_; rintro e w12 ⟨rfl, hR⟩; refine ⟨_, rfl, ?_⟩; replace HM := HM.call hR; clear hR) | ((with_reducible refine gN 33 rfl ?_); refine pL 33 k31 31 ([(⟨1, a1, 0⟩ : S31), (⟨2, a1, 0⟩ : S31), (⟨3, a1, 0⟩ : S31), (⟨4, a1, ji13⟩ : S31)] : List (S31)) [.int .i64 1, .int .i64 a1, .int .i64 0, .int .i64 2, .int .i64 a1, .int .i64 0, .int .i64 3, .int .i64 a1, .int .i64 0, .int .i64 4, .int .i64 a1, .int .i64 ji13] (Reps.c3 (show Kd.M k31 _ _ _ (⟨1, a1, 0⟩ : S31) [.int .i64 1, .int .i64 a1, .int .i64 0] from (k31_mkM _ _ _ (⟨1, a1, 0⟩ : S31))) (Reps.c3 (show Kd.M k31 _ _ _ (⟨2, a1, 0⟩ : S31) [.int .i64 2, .int .i64 a1, .int .i64 0] from (k31_mkM _ _ _ (⟨2, a1, 0⟩ : S31))) (Reps.c3 (show Kd.M k31 _ _ _ (⟨3, a1, 0⟩ : S31) [.int .i64 3, .int .i64 a1, .int .i64 0] from (k31_mkM _ _ _ (⟨3, a1, 0⟩ : S31))) (Reps.c3 (show Kd.M k31 _ _ _ (⟨4, a1, ji13⟩ : S31) [.int .i64 4, .int .i64 a1, .int .i64 ji13] from (k31_mkM _ _ _ (⟨4, a1, ji13⟩ : S31))) (Reps.none _ _))))) HM rfl ?_; clear HM; intro v706 w14 HM; replace HM := HM.nm 1 rfl Ny705.out; obtain ⟨Xo15, ko15, rfl⟩ := HM.rdR 1 rfl))
    go_loopg [5, 35] kj3 (fun kq v5 v35 w' => ∃ (x5_2 : List (S33)) (x35_2 : Int), v35 = .int .i64 x35_2 ∧ Aside0 (impl_Lab.l0 kq l0 x5_2 t704 y705 (y705.length : Int) x35_2 = some r) ∧ Aside0 (kq ≤ kj3) ∧ Mem w [] w' [rowR k33 33 v5 x5_2, rowR k31 31 (.slice Xo15 y705.length ko15) y705])
    case atStart => exact ⟨(y699), (0), RS, H', ⟨Nat.le_refl _⟩, (MD HM).pick [0, 1]⟩
    case round =>
     clear H' HM
     obtain ⟨x5_2, x35_2, rfl, HA, HK2, HM⟩ := hrel
     cases gk with
     | zero => exact absurd HA.out (by simp [impl_Lab.l0])
     | succ k2 =>
      have H := HA.out
      clear HA
      simp only [impl_Lab.l0] at H
      go_upto_if 36 with (fail)
      replace H := IT H; rcases H with ⟨c16, H⟩ | ⟨c16, H⟩
      ·have c16b0 := decide_eq_true c16
       clear c16
       first|rw [c16b0]|(simp only [i64_w, i32_w]; rw [c16b0])|skip
       replace H := GD H; obtain ⟨c17, H⟩ := H
       have c17b0 := decide_eq_true c17
       clear c17
       replace H := GD H; obtain ⟨c18, H⟩ := H
       have c18b0 := decide_eq_true c18
       clear c18
       have p708 : 0 ≤ (x35_2 : Int) := of_decide_eq_true AS
       have q708 : (x35_2 : Int) < (y705.length : Int) := of_decide_eq_true AS
       obtain ⟨ad708, e708, hx708_0, hx708_1, hx708_2⟩ := at_T31 (HM.CR 1 rfl).2.2 x35_2 p708 q708
       cases e708
       replace p708 := eq_true p708
       replace q708 := eq_true q708
       try go_wp2_with (first | ((with_reducible refine gN 8 rfl ?_); refine pB 8 31 [.int .i64 0, .int .i64 0, .int .i64 0] HM rfl ?_; clear HM; intro gb709 w19 HM) | ((with_reducible refine gS 8 rfl ?_); refine pS 2 8 0 [.int .i64 ((rd_T31 y705 x35_2).f0), .int .i64 ((rd_T31 y705 x35_2).f1), .int .i64 ((rd_T31 y705 x35_2).f2)] HM rfl rfl ?_; clear HM; intro w20 HM))
       replace H := BN H; obtain ⟨⟨t710, t711, t712, t713⟩, A21, H⟩ := H
       replace H := GD H; obtain ⟨c22, H⟩ := H
       have LMc22 := Aside0.mk c22
       clear c22
       obtain ⟨Xo30, ko30, rfl⟩ := HM.rdR 0 rfl
       refine RGN 11 [0, 1, 2, 3, 4, 5, 6, 7, 8, 9, 10] (fun a0 b a w' => ∃ (v27 : Value) (v715 : Value), a = putSel a0 b [(0, 39, .slice Xo30 x5_2.length ko30), (1, 40, .agg #[.int .i64 ((rd_T31 y705 x35_2).f0), .int .i64 ((rd_T31 y705 x35_2).f1), .int .i64 ((rd_T31 y705 x35_2).f2)]), (2, 41, .agg #[.int .i64 ((rd_T31 y705 x35_2).f0), .int .i64 ((rd_T31 y705 x35_2).f1), .int .i64 ((rd_T31 y705 x35_2).f2)]), (3, 42, .slice A0 l0.length c0), (4, 43, .agg #[.int .i64 t710, .int .i64 t711, .int .i64 t712, .int .i64 t713]), (5, 44, .int .i64 t712), (6, 45, .int .i64 t704), (7, 46, .agg #[.int .i64 ((rd_T31 y705 x35_2).f0), .int .i64 ((rd_T31 y705 x35_2).f1), .int .i64 ((rd_T31 y705 x35_2).f2), .int .i64 t712, .int .i64 t704]), (8, 47, v27), (9, 48, v715), (10, 5, v715)] ∧ Mem w [] w' [sel (b 9) (rowR k33 33 v715 (x5_2 ++ [(⟨(⟨(rd_T31 y705 x35_2).f0, (rd_T31 y705 x35_2).f1, (rd_T31 y705 x35_2).f2⟩ : S31), t712, t704⟩ : S33)])) (rowR k33 33 (.slice Xo30 x5_2.length ko30) x5_2), rowR k31 31 (.slice (some ad708) y705.length ko15) y705, box 31 gb709 [.int .i64 ((rd_T31 y705 x35_2).f0), .int .i64 ((rd_T31 y705 x35_2).f1), .int .i64 ((rd_T31 y705 x35_2).f2)], sel (b 8) (rowR k33 33 v27 [(⟨(⟨(rd_T31 y705 x35_2).f0, (rd_T31 y705 x35_2).f1, (rd_T31 y705 x35_2).f2⟩ : S31), t712, t704⟩ : S33)]) (emp)]) impl_Lab.tab8 impl_Lab.bits8 ?_ ?_ ?_
       ·exact ⟨.bool false, .bool false, PS0' rfl _, (HM.drew.ems 1).pick [0, 1, 2, 3]⟩
       ·clear HM
        refine SZ ?_ ?_
        ·rintro b a w ⟨v27, v715, ha, HM⟩ hb hon hoff K hK
         replace ha := Aside0.mk ha
         have e5 := PH ha 5 (hoff 10 rfl)
         exact VL (.slice Xo30 x5_2.length ko30) (hK.out _ _ ⟨v27, v715, PUT ha 0 hb, HM⟩)
        refine SZ ?_ ?_
        ·rintro b a w ⟨v27, v715, ha, HM⟩ hb hon hoff K hK
         replace ha := Aside0.mk ha
         obtain ⟨_,_,_,_,_,_⟩ := bk3 (HM.bx 2 rfl)
         have e8 := PG ha 8
         exact VL (.agg #[.int .i64 ((rd_T31 y705 x35_2).f0), .int .i64 ((rd_T31 y705 x35_2).f1), .int .i64 ((rd_T31 y705 x35_2).f2)]) (hK.out _ _ ⟨v27, v715, PUT ha 1 hb, HM⟩)
        refine SZ ?_ ?_
        ·rintro b a w ⟨v27, v715, ha, HM⟩ hb hon hoff K hK
         replace ha := Aside0.mk ha
         obtain ⟨_,_,_,_,_,_⟩ := bk3 (HM.bx 2 rfl)
         have e8 := PG ha 8
         exact VL (.agg #[.int .i64 ((rd_T31 y705 x35_2).f0), .int .i64 ((rd_T31 y705 x35_2).f1), .int .i64 ((rd_T31 y705 x35_2).f2)]) (hK.out _ _ ⟨v27, v715, PUT ha 2 hb, HM⟩)
        refine SZ ?_ ?_
        ·rintro b a w ⟨v27, v715, ha, HM⟩ hb hon hoff K hK
         replace ha := Aside0.mk ha
         have e0 := PG ha 0
         exact VL (.slice A0 l0.length c0) (hK.out _ _ ⟨v27, v715, PUT ha 3 hb, HM⟩)
        refine SZ ?_ ?_
        ·rintro b a w ⟨v27, v715, ha, HM⟩ hb hon hoff K hK
         replace ha := Aside0.mk ha
         have e41 := PE ha 2 hon
         have e42 := PE ha 3 hon
         refine ST (eC (some 43) rfl #[.agg #[.int .i64 ((rd_T31 y705 x35_2).f0), .int .i64 ((rd_T31 y705 x35_2).f1), .int .i64 ((rd_T31 y705 x35_2).f2)], .slice A0 l0.length c0] rfl Try.func11 (impl_CountOf.calls k2 ((rd_T31 y705 x35_2).f0) ((rd_T31 y705 x35_2).f1) ((rd_T31 y705 x35_2).f2) _ _ l0 t710 t711 t712 t713 _ (HM.came HR0.out) HC0.out A21.out) ?_ (hargs := by (simp only [List.map_toArray, List.map_cons, List.map_nil, evc, eval_of e41, eval_of e42]) <;> rfl))
         rintro e w33 ⟨rfl, hR⟩
         refine ⟨_, rfl, ?_⟩
         replace HM := HM.call hR
         clear hR
         exact hK.out _ _ ⟨v27, v715, PUT ha 4 hb, (HM).pick [0, 1, 2, 3]⟩
        refine SZ ?_ ?_
        ·rintro b a w ⟨v27, v715, ha, HM⟩ hb hon hoff K hK
         replace ha := Aside0.mk ha
         have e43 := PE ha 4 hon
         exact VL (.int .i64 t712) (hK.out _ _ ⟨v27, v715, PUT ha 5 hb, HM⟩)
        refine SZ ?_ ?_
        ·rintro b a w ⟨v27, v715, ha, HM⟩ hb hon hoff K hK
         replace ha := Aside0.mk ha
         have e6 := PG ha 6
         exact VL (.int .i64 t704) (hK.out _ _ ⟨v27, v715, PUT ha 6 hb, HM⟩)
        refine SZ ?_ ?_
        ·rintro b a w ⟨v27, v715, ha, HM⟩ hb hon hoff K hK
         replace ha := Aside0.mk ha
         have e40 := PE ha 1 hon
         have e44 := PE ha 5 hon
         have e45 := PE ha 6 hon
         exact VL (.agg #[.int .i64 ((rd_T31 y705 x35_2).f0), .int .i64 ((rd_T31 y705 x35_2).f1), .int .i64 ((rd_T31 y705 x35_2).f2), .int .i64 t712, .int .i64 t704]) (hK.out _ _ ⟨v27, v715, PUT ha 7 hb, HM⟩)
        refine SZ ?_ ?_
        ·rintro b a w ⟨v27, v715, ha, HM⟩ hb hon hoff K hK
         replace ha := Aside0.mk ha
         have e46 := PE ha 7 hon
         refine ST (eL 47 k33 33 [(⟨(⟨(rd_T31 y705 x35_2).f0, (rd_T31 y705 x35_2).f1, (rd_T31 y705 x35_2).f2⟩ : S31), t712, t704⟩ : S33)] [.int .i64 ((rd_T31 y705 x35_2).f0), .int .i64 ((rd_T31 y705 x35_2).f1), .int .i64 ((rd_T31 y705 x35_2).f2), .int .i64 t712, .int .i64 t704] (Reps.c5 (show Kd.M k33 _ _ _ (⟨(⟨(rd_T31 y705 x35_2).f0, (rd_T31 y705 x35_2).f1, (rd_T31 y705 x35_2).f2⟩ : S31), t712, t704⟩ : S33) [.int .i64 ((rd_T31 y705 x35_2).f0), .int .i64 ((rd_T31 y705 x35_2).f1), .int .i64 ((rd_T31 y705 x35_2).f2), .int .i64 t712, .int .i64 t704] from (k33_mkM _ _ _ (⟨(⟨(rd_T31 y705 x35_2).f0, (rd_T31 y705 x35_2).f1, (rd_T31 y705 x35_2).f2⟩ : S31), t712, t704⟩ : S33))) (Reps.none _ _)) HM rfl ?_)
         clear HM
         intro v27 w34 HM
         exact hK.out _ _ ⟨v27, v715, PUT ha 8 hb, (HM).pick [0, 1, 2, 4]⟩
        refine SZ ?_ ?_
        ·rintro b a w ⟨v27, v715, ha, HM⟩ hb hon hoff K hK
         replace ha := Aside0.mk ha
         replace HM := HM.sF 0 rfl hb
         replace HM := HM.sT 3 rfl (hon 8 rfl)
         obtain ⟨Xo35, ko35, rfl⟩ := HM.rdR 3 rfl
         have e39 := PE ha 0 hon
         have e47 := PE ha 8 hon
         refine ST (eA 0 (.tmp 39) (.tmp 47) 26 33 k33 (.slice Xo30 x5_2.length ko30) x5_2 [(⟨(⟨(rd_T31 y705 x35_2).f0, (rd_T31 y705 x35_2).f1, (rd_T31 y705 x35_2).f2⟩ : S31), t712, t704⟩ : S33)] Xo35 ([(⟨(⟨(rd_T31 y705 x35_2).f0, (rd_T31 y705 x35_2).f1, (rd_T31 y705 x35_2).f2⟩ : S31), t712, t704⟩ : S33)].length) ko35 HM rfl Try.underlying26 info33 rfl (HM.CR 3 rfl).2.2 (by have h_ := LMc22.out; simp only [List.length_singleton]; omega) ?_ (ops := #[]) (hw := by rfl) (hs := (eval_of e39)) (hx := (eval_of e47)))
         clear HM
         intro v715 w36 HM
         exact hK.out _ _ ⟨.slice Xo35 [(⟨(⟨(rd_T31 y705 x35_2).f0, (rd_T31 y705 x35_2).f1, (rd_T31 y705 x35_2).f2⟩ : S31), t712, t704⟩ : S33)].length ko35, v715, PUT (PCH ha 10 (hoff 10 rfl)) 9 hb, (HM.iT 3 rfl (hon 8 rfl)).pick [0, 1, 2, 3]⟩
        refine SZ ?_ ?_
        ·rintro b a w ⟨v27, v715, ha, HM⟩ hb hon hoff K hK
         replace ha := Aside0.mk ha
         have e48 := PE ha 9 hon
         exact VL (v715) (hK.out _ _ ⟨v27, v715, PUT ha 10 hb, HM⟩)
        exact steps_nil
       rintro _ w37 ⟨v27, v715, rfl, HM⟩
       replace HM := HM.sT 0 rfl rfl
       replace HM := HM.sT 3 rfl rfl
       simp only [putSel, if_true, Act.put, List.setIfInBounds_toArray, List.set_cons_zero, List.set_cons_succ, gt_iff_lt, ge_iff_le]
       have H' := Aside0.mk H
       clear H
       go_wp2
       go_roundg k2
       case measure => have := HJ3.out; have := HK2.out; omega
       case rel => exact ⟨((x5_2 ++ [(⟨(⟨(rd_T31 y705 x35_2).f0, (rd_T31 y705 x35_2).f1, (rd_T31 y705 x35_2).f2⟩ : S31), t712, t704⟩ : S33)])), (wrap64 (x35_2 + 1)), RS, H', ⟨by have := HJ3.out; have := HK2.out; omega⟩, (MD HM).pick [0, 1]⟩
      ·have c16b0 : decide (x35_2 < (y705.length : Int)) = false := decide_eq_false c16
       clear c16
       first|rw [c16b0]|(simp only [i64_w, i32_w]; rw [c16b0])|skip
       obtain rfl := Option.some.inj H
       go_wp2
       go_ret
       exact ⟨_, ER, (MD HM).pick [0]⟩
def impl_NumText.l0 : Nat → Int → ByteArray → Option (ByteArray)
 | 0, _, _ => none
 | k + 1, x0, x3 => if x0 > 9 then ((some (([(wrap64 (48 + (Int.tmod x0 10))) % 256] : List Int) : List Int)).bind fun y721 => (if (strOfNums y721).size + x3.size ≤ 9223372036854775807 then (impl_NumText.l0 k (wrap64 (Int.tdiv x0 10)) ((strOfNums y721) ++ x3)) else (none))) else ((some (([(wrap64 (48 + x0)) % 256] : List Int) : List Int)).bind fun y724 => (if (strOfNums y724).size + x3.size ≤ 9223372036854775807 then (some ((strOfNums y724) ++ x3)) else (none)))
def impl_NumText.f (k : Nat) (a0 : Int) : Option (ByteArray) := (impl_isNum.f a0).bind fun t720 => (if t720 = true then (impl_NumText.l0 k a0 (⟨#[]⟩ : ByteArray)) else (some (⟨#[]⟩ : ByteArray)))
theorem impl_NumText.calls (k : Nat) (a0 : Int) (r : ByteArray) (w : World)  (h : impl_NumText.f k a0 = some r) :
  Calls Try.prog 10 #[.int .i64 a0] w fun e w' => e = .returned (.string r) ∧ Mem w [] w' [] := by
 have HM := Mem.nil w
 have H := h
 clear h
 unfold impl_NumText.f at H
 go_enter Try.func10, Try.ntmps10
 replace H := BN H; obtain ⟨t720, A2, H⟩ := H
 go_upto_if 6 with (first | ((with_reducible refine gC 29 rfl ?_); refine pC (some 5) rfl #[.int .i64 a0] rfl Try.func29 (impl_isNum.calls a0 t720 _ A2.out) ?_; rintro e w3 ⟨rfl, hd⟩; refine ⟨_, rfl, ?_⟩; replace HM := HM.drawn hd; clear hd))
 replace H := IB H
 rcases H with ⟨c4, H⟩ | ⟨c4, H⟩
 ·subst c4
  have H' := Aside0.mk H
  clear H
  go_wp2
  go_loopg [0, 3] k (fun kq v0 v3 w' => ∃ (x0_1 : Int) (x3_1 : ByteArray), v0 = .int .i64 x0_1 ∧ v3 = .string x3_1 ∧ Aside0 (impl_NumText.l0 kq x0_1 x3_1 = some r) ∧ Aside0 (kq ≤ k) ∧ Mem w [] w' [])
  case atStart => exact ⟨(a0), ((⟨#[]⟩ : ByteArray)), RS, RS, H', ⟨Nat.le_refl _⟩, (MD HM).pick []⟩
  case round =>
   clear H' HM
   obtain ⟨x0_1, x3_1, rfl, rfl, HA, HK1, HM⟩ := hrel
   cases gk with
   | zero => exact absurd HA.out (by simp [impl_NumText.l0])
   | succ k1 =>
    have H := HA.out
    clear HA
    simp only [impl_NumText.l0] at H
    go_upto_if 8 with (fail)
    replace H := IT H; rcases H with ⟨c5, H⟩ | ⟨c5, H⟩
    ·have c5b0 : decide (9 < x0_1) = true := decide_eq_true c5
     clear c5
     first|rw [c5b0]|(simp only [i64_w, i32_w]; rw [c5b0])|skip
     replace H := BLt H; obtain ⟨y721, Ny721, H⟩ := H
     replace Ny721 := Aside0.mk Ny721
     replace H := GD H; obtain ⟨c8, H⟩ := H
     have c8b0 := eq_true c8
     have c8b1 : decide ((strOfNums y721).size + x3_1.size ≤ 9223372036854775807) = true := decide_eq_true c8
     try have c8b2 : (9223372036854775807 < (strOfNums y721).size + x3_1.size) = False := eq_false (Nat.not_lt.2 c8)
     have H' := Aside0.mk H
     clear H
     go_wp2_with (first | ((with_reducible refine gN 13 rfl ?_); refine pL 13 (Kd.int .u8) 5 ([(wrap64 (48 + (Int.tmod x0_1 10))) % 256] : List Int) [.int .u8 ((wrap64 (48 + (Int.tmod x0_1 10))) % 256)] (Reps.one (show Kd.M (Kd.int .u8) _ _ _ ((wrap64 (48 + (Int.tmod x0_1 10))) % 256) [.int .u8 ((wrap64 (48 + (Int.tmod x0_1 10))) % 256)] from rfl) (Reps.none _ _)) HM rfl ?_; clear HM; intro v722 w6 HM; replace HM := HM.nm 0 rfl Ny721.out; have hcv7 := HM.str 0 rfl Try.underlying22 Try.underlying5 Try.underlying9))
     go_roundg k1
     case measure => have := HK1.out; omega
     case rel => exact ⟨(wrap64 (Int.tdiv x0_1 10)), ((strOfNums y721) ++ x3_1), RS, RS, H', ⟨by have := HK1.out; omega⟩, (MD HM).pick []⟩
    ·have c5b0 : decide (9 < x0_1) = false := decide_eq_false c5
     clear c5
     first|rw [c5b0]|(simp only [i64_w, i32_w]; rw [c5b0])|skip
     replace H := BLt H; obtain ⟨y724, Ny724, H⟩ := H
     replace Ny724 := Aside0.mk Ny724
     replace H := GD H; obtain ⟨c11, H⟩ := H
     have c11b0 := eq_true c11
     have c11b1 : decide ((strOfNums y724).size + x3_1.size ≤ 9223372036854775807) = true := decide_eq_true c11
     try have c11b2 : (9223372036854775807 < (strOfNums y724).size + x3_1.size) = False := eq_false (Nat.not_lt.2 c11)
     obtain rfl := Option.some.inj H
     go_wp2_with (first | ((with_reducible refine gN 22 rfl ?_); refine pL 22 (Kd.int .u8) 5 ([(wrap64 (48 + x0_1)) % 256] : List Int) [.int .u8 ((wrap64 (48 + x0_1)) % 256)] (Reps.one (show Kd.M (Kd.int .u8) _ _ _ ((wrap64 (48 + x0_1)) % 256) [.int .u8 ((wrap64 (48 + x0_1)) % 256)] from rfl) (Reps.none _ _)) HM rfl ?_; clear HM; intro v725 w9 HM; replace HM := HM.nm 0 rfl Ny724.out; have hcv10 := HM.str 0 rfl Try.underlying22 Try.underlying5 Try.underlying9))
     go_ret
     exact ⟨ER, (MD HM).pick []⟩
 ·subst c4
  obtain rfl := Option.some.inj H
  go_wp2
  go_ret
  exact ⟨ER, (MD HM).pick []⟩
mutual
def impl_Survey.j0 : Nat → List ByteArray → Int → List ByteArray → Bool → Option (List ByteArray)
 | 0, _, _, _, _ => none
 | k + 1, x0, x1, x5, x18 => if x18 = true then (some x5) else (impl_Survey.l0 k x0 x1 x5 1)
def impl_Survey.l0 : Nat → List ByteArray → Int → List ByteArray → Int → Option (List ByteArray)
 | 0, _, _, _, _ => none
 | k + 1, x0, x1, x5, x6 => if x6 ≤ x1 then ((impl_NumText.f k x6).bind fun t732 => ((impl_Lab.f k x0 x6).bind fun t733 => (impl_Survey.l1 k x0 x1 x5 x6 t732 t733 (t733.length : Int) 0))) else (some x5)
def impl_Survey.l1 : Nat → List ByteArray → Int → List ByteArray → Int → ByteArray → List (S33) → Int → Int → Option (List ByteArray)
 | 0, _, _, _, _, _, _, _, _ => none
 | k + 1, x0, x1, x5, x6, x7, x29, x30, x31 => if x31 < x30 then (if 0 ≤ x31 then (if x31 < (x29.length : Int) then (if x7.size + 1 ≤ 9223372036854775807 then ((impl_NumText.f k ((rd_T33 x29 x31).f1)).bind fun t738 => (if x7.size + 1 + t738.size ≤ 9223372036854775807 then (impl_Survey.l1 k x0 x1 x5 x6 ((x7 ++ (⟨#[32]⟩ : ByteArray)) ++ t738) x29 x30 (wrap64 (x31 + 1))) else (none))) else (none)) else (none)) else (none)) else (if x7.size + 1 ≤ 9223372036854775807 then ((impl_BestMisses.f k x0 x6).bind fun t739 => ((impl_NumText.f k t739).bind fun t740 => (if x7.size + 1 + t740.size ≤ 9223372036854775807 then (if x5.length < 8796093022208 then (impl_Survey.l0 k x0 x1 (x5 ++ [(x7 ++ (⟨#[32]⟩ : ByteArray)) ++ t740]) (wrap64 (x6 + 1))) else (none)) else (none)))) else (none))
end
def impl_Survey.f (k : Nat) (l0 : List ByteArray) (a1 : Int) : Option (List ByteArray) := (some (([] : List ByteArray) : List ByteArray)).bind fun y727 => ((impl_AsksOk.f k l0).bind fun t730 => (if t730 = true then ((impl_within.f a1 1 60).bind fun t731 => (impl_Survey.j0 k l0 a1 y727 (!t731))) else (impl_Survey.j0 k l0 a1 y727 true)))
theorem impl_Survey.calls (k : Nat) (A0 : Option Addr) (c0 : Nat) (l0 : List ByteArray) (a1 : Int) (r : List ByteArray) (w : World) (hr0 : Kd.C Kd.string w A0 l0.length l0) (hc0 : l0.length ≤ c0) (h : impl_Survey.f k l0 a1 = some r) :
  Calls Try.prog 13 #[.slice A0 l0.length c0, .int .i64 a1] w fun e w' => ∃ v0_ : Value, e = .returned (v0_) ∧ Mem w [] w' [rowR Kd.string 9 v0_ r] := by
 have hu33 := Try.underlying33
 have HR0 := Aside0.mk hr0
 have HC0 := Aside0.mk hc0
 clear hr0 hc0
 have HM := Mem.nil w
 have H := h
 clear h
 unfold impl_Survey.f at H
 go_enter Try.func13, Try.ntmps13
 replace H := BLt H; obtain ⟨y727, Ny727, H⟩ := H
 replace Ny727 := Aside0.mk Ny727
 have HC4 := Aside0.mk H
 clear H
 go_upto_region 2 with (first | ((with_reducible refine gN 10 rfl ?_); refine pL 10 Kd.string 9 ([] : List ByteArray) [] (Reps.none _ _) HM rfl ?_; clear HM; intro v728 w3 HM; replace HM := HM.nm 0 rfl Ny727.out))
 go_cut [18] (fun v18 wc => ∃ (kq : Nat) (x18_3 : Bool), v18 = .bool x18_3 ∧ Aside0 (impl_Survey.j0 kq l0 a1 y727 x18_3 = some r) ∧ Aside0 (kq ≤ k) ∧ Mem w [] wc [rowR Kd.string 9 v728 y727])
 case first =>
  have H := HC4.out
  clear HC4
  replace H := BN H; obtain ⟨t730, A5, H⟩ := H
  replace H := IB H
  rcases H with ⟨c7, H⟩ | ⟨c7, H⟩
  ·subst c7
   replace H := BN H; obtain ⟨t731, A8, H⟩ := H
   have H' := Aside0.mk H
   clear H
   go_wp2_with (first | ((with_reducible refine gC 27 rfl ?_); refine pC (some 12) rfl #[.slice A0 l0.length c0] rfl Try.func27 (impl_AsksOk.calls k _ _ l0 true _ (HM.came HR0.out) HC0.out A5.out) ?_; rintro e w6 ⟨rfl, hR⟩; refine ⟨_, rfl, ?_⟩; replace HM := HM.call hR; clear hR) | ((with_reducible refine gC 28 rfl ?_); refine pC (some 16) rfl #[.int .i64 a1, .int .i64 1, .int .i64 60] rfl Try.func28 (impl_within.calls a1 1 60 t731 _ A8.out) ?_; rintro e w9 ⟨rfl, hd⟩; refine ⟨_, rfl, ?_⟩; replace HM := HM.drawn hd; clear hd))
   go_meet
   case rel => exact ⟨_, (!t731), RS, H', ⟨by first | omega | exact Nat.le_refl _⟩, (MD HM).pick [0]⟩
  ·subst c7
   have H' := Aside0.mk H
   clear H
   go_wp2_with (first | ((with_reducible refine gC 27 rfl ?_); refine pC (some 12) rfl #[.slice A0 l0.length c0] rfl Try.func27 (impl_AsksOk.calls k _ _ l0 false _ (HM.came HR0.out) HC0.out A5.out) ?_; rintro e w6 ⟨rfl, hR⟩; refine ⟨_, rfl, ?_⟩; replace HM := HM.call hR; clear hR))
   go_meet
   case rel => exact ⟨_, (true), RS, H', ⟨by first | omega | exact Nat.le_refl _⟩, (MD HM).pick [0]⟩
 case rest =>
  clear HC4 HM
  obtain ⟨kq, x18_3, rfl, HA, HJ3, HM⟩ := hcut
  cases kq with
  | zero => exact absurd HA.out (by simp [impl_Survey.j0])
  | succ kj3 =>
   have H := HA.out
   clear HA
   simp only [impl_Survey.j0] at H
   go_upto_if 18 with (fail)
   replace H := IB H
   rcases H with ⟨c10, H⟩ | ⟨c10, H⟩
   ·subst c10
    obtain rfl := Option.some.inj H
    go_wp2
    go_ret
    exact ⟨_, ER, (MD HM).pick [0]⟩
   ·subst c10
    have H' := Aside0.mk H
    clear H
    go_wp2
    go_loopg [5, 6] kj3 (fun kq v5 v6 w' => ∃ (x5_2 : List ByteArray) (x6_2 : Int), v6 = .int .i64 x6_2 ∧ Aside0 (impl_Survey.l0 kq l0 a1 x5_2 x6_2 = some r) ∧ Aside0 (kq ≤ kj3) ∧ Mem w [] w' [rowR Kd.string 9 v5 x5_2])
    case atStart => exact ⟨(y727), (1), RS, H', ⟨Nat.le_refl _⟩, (MD HM).pick [0]⟩
    case round =>
     clear H' HM
     obtain ⟨x5_2, x6_2, rfl, HA, HK2, HM⟩ := hrel
     cases gk with
     | zero => exact absurd HA.out (by simp [impl_Survey.l0])
     | succ k2 =>
      have H := HA.out
      clear HA
      simp only [impl_Survey.l0] at H
      go_upto_if 22 with (fail)
      replace H := IT H; rcases H with ⟨c11, H⟩ | ⟨c11, H⟩
      ·have c11b0 := decide_eq_true c11
       clear c11
       first|rw [c11b0]|(simp only [i64_w, i32_w]; rw [c11b0])|skip
       replace H := BN H; obtain ⟨t732, A12, H⟩ := H
       replace H := BN H; obtain ⟨t733, A14, H⟩ := H
       have H' := Aside0.mk H
       clear H
       go_wp2_with (first | ((with_reducible refine gC 10 rfl ?_); refine pC (some 26) rfl #[.int .i64 x6_2] rfl Try.func10 (impl_NumText.calls k2 x6_2 t732 _ A12.out) ?_; rintro e w13 ⟨rfl, hR⟩; refine ⟨_, rfl, ?_⟩; replace HM := HM.call hR; clear hR) | ((with_reducible refine gC 8 rfl ?_); refine pC (some 29) rfl #[.slice A0 l0.length c0, .int .i64 x6_2] rfl Try.func8 (impl_Lab.calls k2 _ _ l0 x6_2 t733 _ (HM.came HR0.out) HC0.out A14.out) ?_; rintro e w15 ⟨v734, rfl, hR⟩; refine ⟨_, rfl, ?_⟩; replace HM := HM.call hR; clear hR; obtain ⟨Xo16, ko16, rfl⟩ := HM.rdR 1 rfl))
       go_loopg [7, 31] k2 (fun kq v7 v31 w' => ∃ (x7_3 : ByteArray) (x31_3 : Int), v7 = .string x7_3 ∧ v31 = .int .i64 x31_3 ∧ Aside0 (impl_Survey.l1 kq l0 a1 x5_2 x6_2 x7_3 t733 (t733.length : Int) x31_3 = some r) ∧ Aside0 (kq ≤ k2) ∧ Mem w [] w' [rowR Kd.string 9 u5 x5_2, rowR k33 33 (.slice Xo16 t733.length ko16) t733])
       case atStart => exact ⟨(t732), (0), RS, RS, H', ⟨Nat.le_refl _⟩, (MD HM).pick [0, 1]⟩
       case round =>
        clear H' HM
        obtain ⟨x7_3, x31_3, rfl, rfl, HA, HK3, HM⟩ := hrel
        cases gk with
        | zero => exact absurd HA.out (by simp [impl_Survey.l1])
        | succ k3 =>
         have H := HA.out
         clear HA
         simp only [impl_Survey.l1] at H
         go_upto_if 32 with (fail)
         replace H := IT H; rcases H with ⟨c17, H⟩ | ⟨c17, H⟩
         ·have c17b0 := decide_eq_true c17
          clear c17
          first|rw [c17b0]|(simp only [i64_w, i32_w]; rw [c17b0])|skip
          replace H := GD H; obtain ⟨c18, H⟩ := H
          have c18b0 := decide_eq_true c18
          clear c18
          replace H := GD H; obtain ⟨c19, H⟩ := H
          have c19b0 := decide_eq_true c19
          clear c19
          replace H := GD H; obtain ⟨c22, H⟩ := H
          have c22b0 := eq_true c22
          have c22b1 : decide (x7_3.size + 1 ≤ 9223372036854775807) = true := decide_eq_true c22
          try have c22b2 : (9223372036854775807 < x7_3.size + 1) = False := eq_false (Nat.not_lt.2 c22)
          replace H := BN H; obtain ⟨t738, A24, H⟩ := H
          replace H := GD H; obtain ⟨c26, H⟩ := H
          have c26b0 := eq_true c26
          have c26b1 : decide (x7_3.size + 1 + t738.size ≤ 9223372036854775807) = true := decide_eq_true c26
          try have c26b2 : (9223372036854775807 < x7_3.size + 1 + t738.size) = False := eq_false (Nat.not_lt.2 c26)
          have H' := Aside0.mk H
          clear H
          have p736 : 0 ≤ (x31_3 : Int) := of_decide_eq_true AS
          have q736 : (x31_3 : Int) < (t733.length : Int) := of_decide_eq_true AS
          obtain ⟨ad736, e736, hx736_0, hx736_1, hx736_2, hx736_3, hx736_4⟩ := at_T33 (HM.CR 1 rfl).2.2 x31_3 p736 q736
          cases e736
          replace p736 := eq_true p736
          replace q736 := eq_true q736
          go_wp2_with (first | ((with_reducible refine gN 9 rfl ?_); refine pB 9 33 [.int .i64 0, .int .i64 0, .int .i64 0, .int .i64 0, .int .i64 0] HM rfl ?_; clear HM; intro gb737 w20 HM) | ((with_reducible refine gS 9 rfl ?_); refine pS 2 9 0 [.int .i64 ((rd_T33 t733 x31_3).f0.f0), .int .i64 ((rd_T33 t733 x31_3).f0.f1), .int .i64 ((rd_T33 t733 x31_3).f0.f2), .int .i64 ((rd_T33 t733 x31_3).f1), .int .i64 ((rd_T33 t733 x31_3).f2)] HM rfl rfl ?_; clear HM; intro w21 HM; obtain ⟨_,_,_,_,_,_,_,_,_,_⟩ := bk5 (HM.bx 2 rfl)) | ((with_reducible refine gC 10 rfl ?_); refine pC (some 39) rfl #[.int .i64 ((rd_T33 t733 x31_3).f1)] rfl Try.func10 (impl_NumText.calls k3 ((rd_T33 t733 x31_3).f1) t738 _ A24.out) ?_; rintro e w25 ⟨rfl, hR⟩; refine ⟨_, rfl, ?_⟩; replace HM := HM.call hR; clear hR))
          go_roundg k3
          case measure => have := HJ3.out; have := HK2.out; have := HK3.out; omega
          case rel => exact ⟨((x7_3 ++ (⟨#[32]⟩ : ByteArray)) ++ t738), (wrap64 (x31_3 + 1)), RS, RS, H', ⟨by have := HJ3.out; have := HK2.out; have := HK3.out; omega⟩, (MD HM).pick [0, 1]⟩
         ·have c17b0 := decide_eq_false c17
          clear c17
          first|rw [c17b0]|(simp only [i64_w, i32_w]; rw [c17b0])|skip
          replace H := GD H; obtain ⟨c27, H⟩ := H
          have c27b0 := eq_true c27
          have c27b1 : decide (x7_3.size + 1 ≤ 9223372036854775807) = true := decide_eq_true c27
          try have c27b2 : (9223372036854775807 < x7_3.size + 1) = False := eq_false (Nat.not_lt.2 c27)
          replace H := BN H; obtain ⟨t739, A28, H⟩ := H
          replace H := BN H; obtain ⟨t740, A30, H⟩ := H
          replace H := GD H; obtain ⟨c32, H⟩ := H
          have c32b0 := eq_true c32
          have c32b1 : decide (x7_3.size + 1 + t740.size ≤ 9223372036854775807) = true := decide_eq_true c32
          try have c32b2 : (9223372036854775807 < x7_3.size + 1 + t740.size) = False := eq_false (Nat.not_lt.2 c32)
          replace H := GD H; obtain ⟨c33, H⟩ := H
          have LMc33 := Aside0.mk c33
          clear c33
          have H' := Aside0.mk H
          clear H
          go_wp2_with (first | ((with_reducible refine gC 12 rfl ?_); refine pC (some 47) rfl #[.slice A0 l0.length c0, .int .i64 x6_2] rfl Try.func12 (impl_BestMisses.calls k3 _ _ l0 x6_2 t739 _ (HM.came HR0.out) HC0.out A28.out) ?_; rintro e w29 ⟨rfl, hR⟩; refine ⟨_, rfl, ?_⟩; replace HM := HM.call hR; clear hR) | ((with_reducible refine gC 10 rfl ?_); refine pC (some 48) rfl #[.int .i64 t739] rfl Try.func10 (impl_NumText.calls k3 t739 t740 _ A30.out) ?_; rintro e w31 ⟨rfl, hR⟩; refine ⟨_, rfl, ?_⟩; replace HM := HM.call hR; clear hR) | ((with_reducible refine gN 50 rfl ?_); refine pL 50 Kd.string 9 [(x7_3 ++ (⟨#[32]⟩ : ByteArray)) ++ t740] [.string ((x7_3 ++ (⟨#[32]⟩ : ByteArray)) ++ t740)] (Reps.one (show Kd.M Kd.string _ _ _ ((x7_3 ++ (⟨#[32]⟩ : ByteArray)) ++ t740) [.string ((x7_3 ++ (⟨#[32]⟩ : ByteArray)) ++ t740)] from rfl) (Reps.none _ _)) HM rfl ?_; clear HM; intro v35 w34 HM; obtain ⟨Xv35, kv35, rfl⟩ := HM.rdR 2 rfl) | ((with_reducible refine gate_builtin (b := .append) (xs := #[.tmp 42, .tmp 50]) rfl ?_); refine pA 0 (.tmp 42) (.tmp 50) 23 9 Kd.string u5 x5_2 [(x7_3 ++ (⟨#[32]⟩ : ByteArray)) ++ t740] Xv35 ([(x7_3 ++ (⟨#[32]⟩ : ByteArray)) ++ t740].length) kv35 HM rfl Try.underlying23 info9 rfl (HM.CR 2 rfl).2.2 (by have h_ := LMc33.out; simp only [List.length_singleton]; omega) ?_; clear HM; intro v742 w36 HM))
          go_roundg k3
          case measure => have := HJ3.out; have := HK2.out; have := HK3.out; omega
          case rel => exact ⟨((x5_2 ++ [(x7_3 ++ (⟨#[32]⟩ : ByteArray)) ++ t740])), (wrap64 (x6_2 + 1)), RS, H', ⟨by have := HJ3.out; have := HK2.out; have := HK3.out; omega⟩, (MD HM).pick [0]⟩
      ·have c11b0 := decide_eq_false c11
       clear c11
       first|rw [c11b0]|(simp only [i64_w, i32_w]; rw [c11b0])|skip
       obtain rfl := Option.some.inj H
       go_wp2
       go_ret
       exact ⟨_, ER, (MD HM).pick [0]⟩
end Go.Proofs.Ytlokjgngjgbpmaa.G

namespace Go.Proofs.Ytlokjgngjgbpmaa.G
open Go.RowKit Go.Proofs.YtlokjgngjgbpmaaW.PrintWords Go.Proofs.YtlokjgngjgbpmaaW.PrintLast Go.Proofs.YtlokjgngjgbpmaaW.PrintMore Go.Proofs.Ytlokjgngjgbpmaa.Sh
attribute [local go_sem] max2_int min2_int max_two min_two max_three min_three max_four min_four
set_option linter.unusedVariables false
set_option linter.unusedSimpArgs false
def laws_szStringS.l0 : Nat → List ByteArray → Int → Int → Option (Int)
 | 0, _, _, _ => none
 | k + 1, x0, x1, x5 => if x5 < (x0.length : Int) then (if 0 ≤ x5 then (if (wrap64 (x1 - ((rdOf ByteArray.empty x0 x5).size : Int))) < 0 then (some (-1)) else (laws_szStringS.l0 k x0 (wrap64 (x1 - ((rdOf ByteArray.empty x0 x5).size : Int))) (wrap64 (x5 + 1)))) else (none)) else (some x1)
def laws_szStringS.f (k : Nat) (l0 : List ByteArray) (a1 : Int) : Option (Int) := if (wrap64 (a1 - (l0.length : Int))) < 0 then (some (-1)) else (laws_szStringS.l0 k l0 (wrap64 (a1 - (l0.length : Int))) 0)
theorem laws_szStringS.calls (k : Nat) (A0 : Option Addr) (c0 : Nat) (l0 : List ByteArray) (a1 : Int) (r : Int) (w : World) (hr0 : Kd.C Kd.string w A0 l0.length l0) (hc0 : l0.length ≤ c0) (h : laws_szStringS.f k l0 a1 = some r) :
  Calls Try.prog 14 #[.slice A0 l0.length c0, .int .i64 a1] w fun e w' => e = .returned (.int .i64 r) ∧ Drawn0 w w' := by
 have HR0 := Aside0.mk hr0
 have HC0 := Aside0.mk hc0
 clear hr0 hc0
 have H : (if (wrap64 (a1 - (l0.length : Int))) < 0 then (some (-1)) else (laws_szStringS.l0 k l0 (wrap64 (a1 - (l0.length : Int))) 0)) = some r := h
 clear h
 by_cases c3 : (wrap64 (a1 - (l0.length : Int))) < 0
 ·rw [if_pos c3] at H
  have c3b0 : decide ((wrap64 (a1 - (l0.length : Int))) < 0) = true := decide_eq_true c3
  clear c3
  obtain rfl := Option.some.inj H
  go_enter Try.func14, Try.ntmps14
  go_wp2
  go_ret
  exact ⟨by first | rfl | (simp; done) | (simp [*]; done), DR⟩
 ·rw [if_neg c3] at H
  have c3b0 : decide ((wrap64 (a1 - (l0.length : Int))) < 0) = false := decide_eq_false c3
  clear c3
  have H' := Aside0.mk H
  clear H
  go_enter Try.func14, Try.ntmps14
  go_wp2
  go_loopg [1, 5] k (fun kq v1 v5 w' => ∃ (x1_1 : Int) (x5_1 : Int), v1 = .int .i64 x1_1 ∧ v5 = .int .i64 x5_1 ∧ Aside0 (laws_szStringS.l0 kq l0 x1_1 x5_1 = some r) ∧ Aside0 (kq ≤ k) ∧ Drawn0 w w')
  case atStart => exact ⟨(wrap64 (a1 - (l0.length : Int))), (0), RS, RS, H', ⟨Nat.le_refl _⟩, DR⟩
  case round =>
   clear H'
   try clear c1
   try clear p2
   try clear c3
   try clear c3b0
   obtain ⟨x1_1, x5_1, rfl, rfl, HA, HK1, ⟨m1, rfl⟩⟩ := hrel
   cases gk with
   | zero => exact absurd HA.out (by simp [laws_szStringS.l0])
   | succ k1 =>
    have H := HA.out
    clear HA
    simp only [laws_szStringS.l0] at H
    by_cases c4 : x5_1 < (l0.length : Int)
    ·rw [if_pos c4] at H
     have c4b0 : decide (x5_1 < (l0.length : Int)) = true := decide_eq_true c4
     clear c4
     by_cases c5 : 0 ≤ x5_1
     ·rw [if_pos c5] at H
      have c5b0 : decide (0 ≤ x5_1) = true := decide_eq_true c5
      clear c5
      by_cases c6 : (wrap64 (x1_1 - ((rdOf ByteArray.empty l0 x5_1).size : Int))) < 0
      ·rw [if_pos c6] at H
       have c6b0 : decide ((wrap64 (x1_1 - ((rdOf ByteArray.empty l0 x5_1).size : Int))) < 0) = true := decide_eq_true c6
       clear c6
       obtain rfl := Option.some.inj H
       have p771 : 0 ≤ (x5_1 : Int) := of_decide_eq_true AS
       have q771 : x5_1 < (l0.length : Int) := of_decide_eq_true AS
       obtain ⟨ad771, e771, hx771_0⟩ := Kd.at_string HR0.out x5_1 p771 q771
       cases e771
       replace p771 := eq_true p771
       replace q771 := eq_true q771
       go_wp2
       go_ret
       exact ⟨by first | rfl | (simp; done) | (simp [*]; done), DR⟩
      ·rw [if_neg c6] at H
       have c6b0 : decide ((wrap64 (x1_1 - ((rdOf ByteArray.empty l0 x5_1).size : Int))) < 0) = false := decide_eq_false c6
       clear c6
       have H' := Aside0.mk H
       clear H
       have p771 : 0 ≤ (x5_1 : Int) := of_decide_eq_true AS
       have q771 : x5_1 < (l0.length : Int) := of_decide_eq_true AS
       obtain ⟨ad771, e771, hx771_0⟩ := Kd.at_string HR0.out x5_1 p771 q771
       cases e771
       replace p771 := eq_true p771
       replace q771 := eq_true q771
       go_wp2
       go_roundg k1
       case measure => have := HK1.out; omega
       case rel => exact ⟨(wrap64 (x1_1 - ((rdOf ByteArray.empty l0 x5_1).size : Int))), (wrap64 (x5_1 + 1)), RS, RS, H', ⟨by have := HK1.out; omega⟩, DR⟩
     ·rw [if_neg c5] at H
      exact absurd H (by simp)
    ·rw [if_neg c4] at H
     have c4b0 : decide (x5_1 < (l0.length : Int)) = false := decide_eq_false c4
     clear c4
     obtain rfl := Option.some.inj H
     go_wp2
     go_ret
     exact ⟨by first | rfl | (simp; done) | (simp [*]; done), DR⟩
end Go.Proofs.Ytlokjgngjgbpmaa.G

namespace Go.Proofs.Ytlokjgngjgbpmaa.G
open Go.RowKit Go.Proofs.YtlokjgngjgbpmaaW.PrintWords Go.Proofs.YtlokjgngjgbpmaaW.PrintLast Go.Proofs.YtlokjgngjgbpmaaW.PrintMore Go.Proofs.Ytlokjgngjgbpmaa.Sh
attribute [local go_sem] max2_int min2_int max_two min_two max_three min_three max_four min_four
set_option linter.unusedVariables false
set_option linter.unusedSimpArgs false
open Go.Proofs.Ytlokjgngjgbpmaa.Mm
def laws_toStringS.l0 : Nat → List ByteArray → List ByteArray → Int → Option (List ByteArray)
 | 0, _, _, _ => none
 | k + 1, x0, x3, x4 => if x4 < (x0.length : Int) then (if 0 ≤ x4 then (if x4 < (x3.length : Int) then (laws_toStringS.l0 k x0 (x3.set (x4 : Int).toNat (rdOf ByteArray.empty x0 x4)) (wrap64 (x4 + 1))) else (none)) else (none)) else (some x3)
def laws_toStringS.f (k : Nat) (l0 : List ByteArray) : Option (List ByteArray) := if 0 ≤ (l0.length : Int) then (if ((l0.length : Int) : Int).toNat ≤ 17592186044416 then (laws_toStringS.l0 k l0 (List.replicate ((l0.length : Int) : Int).toNat (⟨#[]⟩ : ByteArray)) 0) else (none)) else (none)
theorem laws_toStringS.calls (k : Nat) (A0 : Option Addr) (c0 : Nat) (l0 : List ByteArray) (r : List ByteArray) (w : World) (hr0 : Kd.C Kd.string w A0 l0.length l0) (hc0 : l0.length ≤ c0) (h : laws_toStringS.f k l0 = some r) :
  Calls Try.prog 16 #[.slice A0 l0.length c0] w fun e w' => ∃ v0_ : Value, e = .returned (v0_) ∧ Mem w [] w' [rowR Kd.string 9 v0_ r] := by
 have HR0 := Aside0.mk hr0
 have HC0 := Aside0.mk hc0
 clear hr0 hc0
 have HM := Mem.nil w
 have H := h
 clear h
 unfold laws_toStringS.f at H
 go_enter Try.func16, Try.ntmps16
 replace H := GD H; obtain ⟨c2, H⟩ := H
 have c2b0 := eq_true c2
 have c2b1 : decide (0 ≤ (l0.length : Int)) = true := decide_eq_true c2
 clear c2
 replace H := GD H; obtain ⟨c3, H⟩ := H
 have c3b0 := eq_true c3
 have c3b1 : decide (((l0.length : Int) : Int).toNat ≤ 17592186044416) = true := decide_eq_true c3
 clear c3
 have H' := Aside0.mk H
 clear H
 go_wp2_with (first | ((with_reducible refine gN 7 rfl ?_); refine pM 7 Kd.string 9 23 _ _ (l0.length : Int) (.string ⟨#[]⟩) 16 (⟨#[]⟩ : ByteArray) HM rfl Try.underlying23 info9 (of_decide_eq_true AS) (Nat.le_trans (Nat.mul_le_mul_right _ (of_decide_eq_true AS : (l0.length : Int).toNat ≤ 17592186044416)) (by omega)) (hzero := rfl) ?_; clear HM; intro v1489 w4 HM))
 go_loopg [4] k (fun kq v4 w' => ∃ (x3_1 : List ByteArray) (x4_1 : Int), v4 = .int .i64 x4_1 ∧ Aside0 (laws_toStringS.l0 kq l0 x3_1 x4_1 = some r) ∧ Aside0 (kq ≤ k) ∧ Mem w [] w' [rowR Kd.string 9 v1489 x3_1])
 case atStart => exact ⟨((List.replicate ((l0.length : Int) : Int).toNat (⟨#[]⟩ : ByteArray))), (0), RS, H', ⟨Nat.le_refl _⟩, (MD HM).pick [0]⟩
 case round =>
  clear H' HM
  obtain ⟨x3_1, x4_1, rfl, HA, HK1, HM⟩ := hrel
  cases gk with
  | zero => exact absurd HA.out (by simp [laws_toStringS.l0])
  | succ k1 =>
   have H := HA.out
   clear HA
   simp only [laws_toStringS.l0] at H
   go_upto_if 11 with (fail)
   replace H := IT H; rcases H with ⟨c5, H⟩ | ⟨c5, H⟩
   ·have c5b0 := decide_eq_true c5
    clear c5
    first|rw [c5b0]|(simp only [i64_w, i32_w]; rw [c5b0])|skip
    replace H := GD H; obtain ⟨c6, H⟩ := H
    have c6b0 := decide_eq_true c6
    clear c6
    replace H := GD H; obtain ⟨c7, H⟩ := H
    have c7b0 := decide_eq_true c7
    clear c7
    have H' := Aside0.mk H
    clear H
    have p1491 : 0 ≤ (x4_1 : Int) := of_decide_eq_true AS
    have q1491 : (x4_1 : Int) < (l0.length : Int) := of_decide_eq_true AS
    obtain ⟨ad1491, e1491, hx1491_0⟩ := Kd.at_string (HM.came HR0.out) x4_1 p1491 q1491
    cases e1491
    replace p1491 := eq_true p1491
    replace q1491 := eq_true q1491
    obtain ⟨Xo9, ko9, rfl⟩ := HM.rdR 0 rfl
    have p8 : 0 ≤ (x4_1 : Int) := of_decide_eq_true AS
    have q8 : (x4_1 : Int) < ((x3_1.length : Int) : Int) := of_decide_eq_true AS
    obtain ⟨go8, ef8⟩ := HM.form 0 rfl (by have h_ := (HM.CR 0 rfl).1; omega)
    subst ef8
    obtain ⟨hcc8, hfr8⟩ := HM.el 0 rfl (⟨#[]⟩ : ByteArray) (x4_1 : Int) p8 (by have h_ := (HM.CR 0 rfl).1; omega) [.string (rdOf ByteArray.empty x3_1 x4_1)] (fun _ _ h => h)
    have hx8_0 : wr.cell? ⟨go8, (x4_1 : Int).toNat, none⟩ = some (.string (rdOf ByteArray.empty x3_1 x4_1)) := (by have h_ := hcc8 0 _ rfl; first | exact h_ | (simp only [show (Kd.string).sz = 1 from rfl, Nat.mul_one, Nat.add_zero] at h_; exact h_) | simpa using h_)
    have hf8_0 : wr.frozen? ⟨go8, (x4_1 : Int).toNat, none⟩ = false := (by have h_ := hfr8 0; first | exact h_ | (simp only [show (Kd.string).sz = 1 from rfl, Nat.mul_one, Nat.add_zero] at h_; exact h_) | simpa using h_)
    clear hcc8 hfr8
    replace p8 := eq_true p8
    replace q8 := eq_true q8
    go_wp2_with (first | ((with_reducible refine gS 20 rfl ?_); refine pPR 0 20 (x4_1 : Int) 0 [.string (rdOf ByteArray.empty l0 x4_1)] Kd.string 9 x3_1 (rdOf ByteArray.empty l0 x4_1) (⟨#[]⟩ : ByteArray) [.string (rdOf ByteArray.empty x3_1 x4_1)] HM rfl rfl (of_decide_eq_true AS) (by have h_ : (x4_1 : Int) < ((x3_1.length : Int) : Int) := of_decide_eq_true AS; have e_ := (HM.CR 0 rfl).1; omega) (fun _ _ h => h) rfl ?_; clear HM; intro w10 HM))
    go_roundg k1
    case measure => have := HK1.out; omega
    case rel => exact ⟨((x3_1.set (x4_1 : Int).toNat (rdOf ByteArray.empty l0 x4_1))), (wrap64 (x4_1 + 1)), RS, H', ⟨by have := HK1.out; omega⟩, (MD HM).pick [0]⟩
   ·have c5b0 := decide_eq_false c5
    clear c5
    first|rw [c5b0]|(simp only [i64_w, i32_w]; rw [c5b0])|skip
    obtain rfl := Option.some.inj H
    go_wp2
    go_ret
    exact ⟨_, ER, (MD HM).pick [0]⟩
end Go.Proofs.Ytlokjgngjgbpmaa.G

namespace Go.Proofs.Ytlokjgngjgbpmaa.G
open Go.RowKit Go.Proofs.YtlokjgngjgbpmaaW.PrintWords Go.Proofs.YtlokjgngjgbpmaaW.PrintLast Go.Proofs.YtlokjgngjgbpmaaW.PrintMore Go.Proofs.Ytlokjgngjgbpmaa.Sh
attribute [local go_sem] max2_int min2_int max_two min_two max_three min_three max_four min_four
set_option linter.unusedVariables false
set_option linter.unusedSimpArgs false
def laws_eqStringS.l0 : Nat → List ByteArray → List ByteArray → Int → Option (Bool)
 | 0, _, _, _ => none
 | k + 1, x0, x1, x5 => if x5 < (x0.length : Int) then (if 0 ≤ x5 then (if x5 < (x1.length : Int) then (if (rdOf ByteArray.empty x0 x5).toList = (rdOf ByteArray.empty x1 x5).toList then (laws_eqStringS.l0 k x0 x1 (wrap64 (x5 + 1))) else (none)) else (none)) else (none)) else (some true)
def laws_eqStringS.f (k : Nat) (l0 : List ByteArray) (l1 : List ByteArray) : Option (Bool) := if (l0.length : Int) = (l1.length : Int) then (laws_eqStringS.l0 k l0 l1 0) else (none)
theorem laws_eqStringS.calls (k : Nat) (A0 : Option Addr) (c0 : Nat) (l0 : List ByteArray) (A1 : Option Addr) (c1 : Nat) (l1 : List ByteArray) (r : Bool) (w : World) (hr0 : Kd.C Kd.string w A0 l0.length l0) (hc0 : l0.length ≤ c0) (hr1 : Kd.C Kd.string w A1 l1.length l1) (hc1 : l1.length ≤ c1) (h : laws_eqStringS.f k l0 l1 = some r) :
  Calls Try.prog 17 #[.slice A0 l0.length c0, .slice A1 l1.length c1] w fun e w' => e = .returned (.bool r) ∧ Drawn0 w w' := by
 have HR0 := Aside0.mk hr0
 have HC0 := Aside0.mk hc0
 clear hr0 hc0
 have HR1 := Aside0.mk hr1
 have HC1 := Aside0.mk hc1
 clear hr1 hc1
 have H : (if (l0.length : Int) = (l1.length : Int) then (laws_eqStringS.l0 k l0 l1 0) else (none)) = some r := h
 clear h
 by_cases c3 : (l0.length : Int) = (l1.length : Int)
 ·rw [if_pos c3] at H
  have c3b0 : ((l0.length : Int) == (l1.length : Int)) = true := beq_iff_eq.mpr c3
  have c3b1 : ((l0.length : Int) != (l1.length : Int)) = false := bne_eq_false_iff_eq.mpr c3
  have c3b2 : (l0.length == l1.length) = true := by first | simpa using c3 | (simp at c3 ⊢; omega)
  clear c3
  have H' := Aside0.mk H
  clear H
  go_enter Try.func17, Try.ntmps17
  go_wp2
  repeat (go_quiet (fail); try go_wp2)
  go_loopg [5] k (fun kq v5 w' => ∃ (x5_1 : Int), v5 = .int .i64 x5_1 ∧ Aside0 (laws_eqStringS.l0 kq l0 l1 x5_1 = some r) ∧ Aside0 (kq ≤ k) ∧ Drawn0 w w')
  case atStart => exact ⟨(0), RS, H', ⟨Nat.le_refl _⟩, DR⟩
  case round =>
   clear H'
   try clear c1
   try clear p2
   try clear c3
   try clear c3b0
   try clear c3b1
   try clear c3b2
   obtain ⟨x5_1, rfl, HA, HK1, ⟨m1, rfl⟩⟩ := hrel
   cases gk with
   | zero => exact absurd HA.out (by simp [laws_eqStringS.l0])
   | succ k1 =>
    have H := HA.out
    clear HA
    simp only [laws_eqStringS.l0] at H
    by_cases c4 : x5_1 < (l0.length : Int)
    ·rw [if_pos c4] at H
     have c4b0 : decide (x5_1 < (l0.length : Int)) = true := decide_eq_true c4
     clear c4
     by_cases c5 : 0 ≤ x5_1
     ·rw [if_pos c5] at H
      have c5b0 : decide (0 ≤ x5_1) = true := decide_eq_true c5
      clear c5
      by_cases c6 : x5_1 < (l1.length : Int)
      ·rw [if_pos c6] at H
       have c6b0 : decide (x5_1 < (l1.length : Int)) = true := decide_eq_true c6
       clear c6
       by_cases c7 : (rdOf ByteArray.empty l0 x5_1).toList = (rdOf ByteArray.empty l1 x5_1).toList
       ·rw [if_pos c7] at H
        have c7b0 : ((rdOf ByteArray.empty l0 x5_1).toList == (rdOf ByteArray.empty l1 x5_1).toList) = true := beq_iff_eq.mpr c7
        have c7b1 : ((rdOf ByteArray.empty l0 x5_1).toList != (rdOf ByteArray.empty l1 x5_1).toList) = false := bne_eq_false_iff_eq.mpr c7
        clear c7
        have H' := Aside0.mk H
        clear H
        have p1495 : 0 ≤ (x5_1 : Int) := of_decide_eq_true AS
        have q1495 : x5_1 < (l0.length : Int) := of_decide_eq_true AS
        obtain ⟨ad1495, e1495, hx1495_0⟩ := Kd.at_string HR0.out x5_1 p1495 q1495
        cases e1495
        replace p1495 := eq_true p1495
        replace q1495 := eq_true q1495
        have p1496 : 0 ≤ (x5_1 : Int) := of_decide_eq_true AS
        have q1496 : x5_1 < (l1.length : Int) := of_decide_eq_true AS
        obtain ⟨ad1496, e1496, hx1496_0⟩ := Kd.at_string HR1.out x5_1 p1496 q1496
        cases e1496
        replace p1496 := eq_true p1496
        replace q1496 := eq_true q1496
        go_wp2
        repeat (go_quiet (fail); try go_wp2)
        go_roundg k1
        case measure => have := HK1.out; omega
        case rel => exact ⟨(wrap64 (x5_1 + 1)), RS, H', ⟨by have := HK1.out; omega⟩, DR⟩
       ·rw [if_neg c7] at H
        exact absurd H (by simp)
      ·rw [if_neg c6] at H
       exact absurd H (by simp)
     ·rw [if_neg c5] at H
      exact absurd H (by simp)
    ·rw [if_neg c4] at H
     have c4b0 : decide (x5_1 < (l0.length : Int)) = false := decide_eq_false c4
     clear c4
     obtain rfl := Option.some.inj H
     go_wp2
     repeat (go_quiet (fail); try go_wp2)
     go_ret
     exact ⟨by first | rfl | (simp; done) | (simp [*]; done), DR⟩
 ·rw [if_neg c3] at H
  exact absurd H (by simp)
end Go.Proofs.Ytlokjgngjgbpmaa.G

namespace Go.Proofs.Ytlokjgngjgbpmaa.G
open Go.RowKit Go.Proofs.YtlokjgngjgbpmaaW.PrintWords Go.Proofs.YtlokjgngjgbpmaaW.PrintLast Go.Proofs.YtlokjgngjgbpmaaW.PrintMore Go.Proofs.Ytlokjgngjgbpmaa.Sh
attribute [local go_sem] max2_int min2_int max_two min_two max_three min_three max_four min_four
set_option linter.unusedVariables false
set_option linter.unusedSimpArgs false
open Go.Proofs.Ytlokjgngjgbpmaa.Mm
def laws_markText.l0 : Nat → Int → ByteArray → Option (ByteArray)
 | 0, _, _ => none
 | k + 1, x0, x3 => if x0 > 0 then ((some (([(wrap64 (48 + (Int.tmod x0 10))) % 256] : List Int) : List Int)).bind fun y1497 => (if (strOfNums y1497).size + x3.size ≤ 9223372036854775807 then (laws_markText.l0 k (wrap64 (Int.tdiv x0 10)) ((strOfNums y1497) ++ x3)) else (none))) else (if 1 + x3.size ≤ 9223372036854775807 then (some ((⟨#[109]⟩ : ByteArray) ++ x3)) else (none))
def laws_markText.f (k : Nat) (a0 : Int) : Option (ByteArray) := if a0 ≤ 0 then (some (⟨#[109, 48]⟩ : ByteArray)) else (laws_markText.l0 k a0 (⟨#[]⟩ : ByteArray))
theorem laws_markText.calls (k : Nat) (a0 : Int) (r : ByteArray) (w : World)  (h : laws_markText.f k a0 = some r) :
  Calls Try.prog 37 #[.int .i64 a0] w fun e w' => e = .returned (.string r) ∧ Mem w [] w' [] := by
 have HM := Mem.nil w
 have H := h
 clear h
 unfold laws_markText.f at H
 go_enter Try.func37, Try.ntmps37
 go_upto_if 5 with (fail)
 replace H := IT H; rcases H with ⟨c2, H⟩ | ⟨c2, H⟩
 ·have c2b0 := decide_eq_true c2
  clear c2
  first|rw [c2b0]|(simp only [i64_w, i32_w]; rw [c2b0])|skip
  obtain rfl := Option.some.inj H
  go_wp2
  go_ret
  exact ⟨ER, (MD HM).pick []⟩
 ·have c2b0 := decide_eq_false c2
  clear c2
  first|rw [c2b0]|(simp only [i64_w, i32_w]; rw [c2b0])|skip
  have H' := Aside0.mk H
  clear H
  go_wp2
  go_loopg [0, 3] k (fun kq v0 v3 w' => ∃ (x0_1 : Int) (x3_1 : ByteArray), v0 = .int .i64 x0_1 ∧ v3 = .string x3_1 ∧ Aside0 (laws_markText.l0 kq x0_1 x3_1 = some r) ∧ Aside0 (kq ≤ k) ∧ Mem w [] w' [])
  case atStart => exact ⟨(a0), ((⟨#[]⟩ : ByteArray)), RS, RS, H', ⟨Nat.le_refl _⟩, (MD HM).pick []⟩
  case round =>
   clear H' HM
   obtain ⟨x0_1, x3_1, rfl, rfl, HA, HK1, HM⟩ := hrel
   cases gk with
   | zero => exact absurd HA.out (by simp [laws_markText.l0])
   | succ k1 =>
    have H := HA.out
    clear HA
    simp only [laws_markText.l0] at H
    go_upto_if 7 with (fail)
    replace H := IT H; rcases H with ⟨c3, H⟩ | ⟨c3, H⟩
    ·have c3b0 : decide (0 < x0_1) = true := decide_eq_true c3
     clear c3
     first|rw [c3b0]|(simp only [i64_w, i32_w]; rw [c3b0])|skip
     replace H := BLt H; obtain ⟨y1497, Ny1497, H⟩ := H
     replace Ny1497 := Aside0.mk Ny1497
     replace H := GD H; obtain ⟨c6, H⟩ := H
     have c6b0 := eq_true c6
     have c6b1 : decide ((strOfNums y1497).size + x3_1.size ≤ 9223372036854775807) = true := decide_eq_true c6
     try have c6b2 : (9223372036854775807 < (strOfNums y1497).size + x3_1.size) = False := eq_false (Nat.not_lt.2 c6)
     have H' := Aside0.mk H
     clear H
     go_wp2_with (first | ((with_reducible refine gN 12 rfl ?_); refine pL 12 (Kd.int .u8) 5 ([(wrap64 (48 + (Int.tmod x0_1 10))) % 256] : List Int) [.int .u8 ((wrap64 (48 + (Int.tmod x0_1 10))) % 256)] (Reps.one (show Kd.M (Kd.int .u8) _ _ _ ((wrap64 (48 + (Int.tmod x0_1 10))) % 256) [.int .u8 ((wrap64 (48 + (Int.tmod x0_1 10))) % 256)] from rfl) (Reps.none _ _)) HM rfl ?_; clear HM; intro v1498 w4 HM; replace HM := HM.nm 0 rfl Ny1497.out; have hcv5 := HM.str 0 rfl Try.underlying22 Try.underlying5 Try.underlying9))
     go_roundg k1
     case measure => have := HK1.out; omega
     case rel => exact ⟨(wrap64 (Int.tdiv x0_1 10)), ((strOfNums y1497) ++ x3_1), RS, RS, H', ⟨by have := HK1.out; omega⟩, (MD HM).pick []⟩
    ·have c3b0 : decide (0 < x0_1) = false := decide_eq_false c3
     clear c3
     first|rw [c3b0]|(simp only [i64_w, i32_w]; rw [c3b0])|skip
     replace H := GD H; obtain ⟨c7, H⟩ := H
     have c7b0 := eq_true c7
     have c7b1 : decide (1 + x3_1.size ≤ 9223372036854775807) = true := decide_eq_true c7
     try have c7b2 : (9223372036854775807 < 1 + x3_1.size) = False := eq_false (Nat.not_lt.2 c7)
     obtain rfl := Option.some.inj H
     go_wp2
     go_ret
     exact ⟨ER, (MD HM).pick []⟩
def laws_markStringS.l0 : Nat → List ByteArray → Int → Int → Option (Int × List ByteArray)
 | 0, _, _, _ => none
 | k + 1, x0, x1, x5 => if x5 < (x0.length : Int) then ((laws_markText.f k x1).bind fun t1500 => (if 0 ≤ x5 then (laws_markStringS.l0 k (x0.set (x5 : Int).toNat t1500) (wrap64 (x1 + 1)) (wrap64 (x5 + 1))) else (none))) else (some (x1, x0))
def laws_markStringS.f (k : Nat) (l0 : List ByteArray) (a1 : Int) : Option (Int × List ByteArray) := laws_markStringS.l0 k l0 a1 0
theorem laws_markStringS.calls (k : Nat) (u9000_ : Value) (l0 : List ByteArray) (a1 : Int) (r1 : Int) (r2 : List ByteArray) (w0 w : World) (F : List SP)  (hM : Mem w0 F w [rowR Kd.string 9 u9000_ l0]) (h : laws_markStringS.f k l0 a1 = some (r1, r2)) :
  Calls Try.prog 18 #[u9000_, .int .i64 a1] w fun e w' => e = .returned (.int .i64 r1) ∧ Mem w0 F w' [rowR Kd.string 9 u9000_ r2] := by
 have HM := hM
 clear hM
 have H := h
 clear h
 unfold laws_markStringS.f at H
 go_enter Try.func18, Try.ntmps18
 have H' := Aside0.mk H
 clear H
 go_wp2
 go_loopg [1, 5] k (fun kq v1 v5 w' => ∃ (x0_1 : List ByteArray) (x1_1 : Int) (x5_1 : Int), v1 = .int .i64 x1_1 ∧ v5 = .int .i64 x5_1 ∧ Aside0 (laws_markStringS.l0 kq x0_1 x1_1 x5_1 = some (r1, r2)) ∧ Aside0 (kq ≤ k) ∧ Mem w0 F w' [rowR Kd.string 9 u9000_ x0_1])
 case atStart => exact ⟨(l0), (a1), (0), RS, RS, H', ⟨Nat.le_refl _⟩, (MD HM).pick [0]⟩
 case round =>
  clear H' HM
  obtain ⟨x0_1, x1_1, x5_1, rfl, rfl, HA, HK1, HM⟩ := hrel
  cases gk with
  | zero => exact absurd HA.out (by simp [laws_markStringS.l0])
  | succ k1 =>
   have H := HA.out
   clear HA
   simp only [laws_markStringS.l0] at H
   obtain ⟨Xo3, ko3, rfl⟩ := HM.rdR 0 rfl
   go_upto_if 9 with (fail)
   replace H := IT H; rcases H with ⟨c4, H⟩ | ⟨c4, H⟩
   ·have c4b0 := decide_eq_true c4
    clear c4
    first|rw [c4b0]|(simp only [i64_w, i32_w]; rw [c4b0])|skip
    replace H := BN H; obtain ⟨t1500, A5, H⟩ := H
    replace H := GD H; obtain ⟨c7, H⟩ := H
    have c7b0 := decide_eq_true c7
    clear c7
    have H' := Aside0.mk H
    clear H
    go_wp2_with (first | ((with_reducible refine gC 37 rfl ?_); refine pC (some 15) rfl #[.int .i64 x1_1] rfl Try.func37 (laws_markText.calls k1 x1_1 t1500 _ A5.out) ?_; rintro e w6 ⟨rfl, hR⟩; refine ⟨_, rfl, ?_⟩; replace HM := HM.call hR; clear hR; have p8 : 0 ≤ (x5_1 : Int) := of_decide_eq_true AS; have q8 : (x5_1 : Int) < ((x0_1.length : Int) : Int) := of_decide_eq_true AS; obtain ⟨go8, ef8⟩ := HM.form 0 rfl (by have h_ := (HM.CR 0 rfl).1; omega); subst ef8; obtain ⟨hcc8, hfr8⟩ := HM.el 0 rfl (⟨#[]⟩ : ByteArray) (x5_1 : Int) p8 (by have h_ := (HM.CR 0 rfl).1; omega) [.string (rdOf ByteArray.empty x0_1 x5_1)] (fun _ _ h => h); have hx8_0 : w6.cell? ⟨go8, (x5_1 : Int).toNat, none⟩ = some (.string (rdOf ByteArray.empty x0_1 x5_1)) := (by have h_ := hcc8 0 _ rfl; first | exact h_ | (simp only [show (Kd.string).sz = 1 from rfl, Nat.mul_one, Nat.add_zero] at h_; exact h_) | simpa using h_); have hf8_0 : w6.frozen? ⟨go8, (x5_1 : Int).toNat, none⟩ = false := (by have h_ := hfr8 0; first | exact h_ | (simp only [show (Kd.string).sz = 1 from rfl, Nat.mul_one, Nat.add_zero] at h_; exact h_) | simpa using h_); clear hcc8 hfr8; replace p8 := eq_true p8; replace q8 := eq_true q8) | ((with_reducible refine gS 16 rfl ?_); refine pPR 0 16 (x5_1 : Int) 0 [.string t1500] Kd.string 9 x0_1 t1500 (⟨#[]⟩ : ByteArray) [.string (rdOf ByteArray.empty x0_1 x5_1)] HM rfl rfl (of_decide_eq_true AS) (by have h_ : (x5_1 : Int) < ((x0_1.length : Int) : Int) := of_decide_eq_true AS; have e_ := (HM.CR 0 rfl).1; omega) (fun _ _ h => h) rfl ?_; clear HM; intro w9 HM))
    go_roundg k1
    case measure => have := HK1.out; omega
    case rel => exact ⟨((x0_1.set (x5_1 : Int).toNat t1500)), (wrap64 (x1_1 + 1)), (wrap64 (x5_1 + 1)), RS, RS, H', ⟨by have := HK1.out; omega⟩, (MD HM).pick [0]⟩
   ·have c4b0 := decide_eq_false c4
    clear c4
    first|rw [c4b0]|(simp only [i64_w, i32_w]; rw [c4b0])|skip
    simp only [Option.some.injEq, Prod.mk.injEq] at H
    obtain ⟨rfl, rfl⟩ := H
    go_wp2
    go_ret
    exact ⟨ER, (MD HM).pick [0]⟩
def laws_heldStringS.l0 : Nat → List ByteArray → Int → Int → Option (Int)
 | 0, _, _, _ => none
 | k + 1, x0, x1, x5 => if x5 < (x0.length : Int) then (if 0 ≤ x5 then ((laws_markText.f k x1).bind fun t1503 => (if (rdOf ByteArray.empty x0 x5).toList = t1503.toList then (laws_heldStringS.l0 k x0 (wrap64 (x1 + 1)) (wrap64 (x5 + 1))) else (none))) else (none)) else (some x1)
def laws_heldStringS.f (k : Nat) (l0 : List ByteArray) (a1 : Int) : Option (Int) := laws_heldStringS.l0 k l0 a1 0
def laws_heldStringS.T4 : Bool × List (List Nat × List Nat) := (true, [([], []), ([], []), ([0, 1], [0, 1]), ([2], [2]), ([], []), ([4], [4]), ([3, 5], [3, 5])])
def laws_heldStringS.B4 : List Nat := [0, 0, 3, 7, 0, 16, 63]
theorem laws_heldStringS.tab4 : rtab .any (opsOf Try.f19 4) = laws_heldStringS.T4 := by kernel_rfl
theorem laws_heldStringS.bits4 : waitsOk laws_heldStringS.T4.2 laws_heldStringS.B4 = true := by kernel_rfl
theorem laws_heldStringS.calls (k : Nat) (A0 : Option Addr) (c0 : Nat) (l0 : List ByteArray) (a1 : Int) (r : Int) (w : World) (hr0 : Kd.C Kd.string w A0 l0.length l0) (hc0 : l0.length ≤ c0) (h : laws_heldStringS.f k l0 a1 = some r) :
  Calls Try.prog 19 #[.slice A0 l0.length c0, .int .i64 a1] w fun e w' => e = .returned (.int .i64 r) ∧ Mem w [] w' [] := by
 have HR0 := Aside0.mk hr0
 have HC0 := Aside0.mk hc0
 clear hr0 hc0
 have HM := Mem.nil w
 have H := h
 clear h
 unfold laws_heldStringS.f at H
 go_enter Try.func19, Try.ntmps19
 have H' := Aside0.mk H
 clear H
 go_wp2
 go_loopg [1, 5] k (fun kq v1 v5 w' => ∃ (x1_1 : Int) (x5_1 : Int), v1 = .int .i64 x1_1 ∧ v5 = .int .i64 x5_1 ∧ Aside0 (laws_heldStringS.l0 kq l0 x1_1 x5_1 = some r) ∧ Aside0 (kq ≤ k) ∧ Mem w [] w' [])
 case atStart => exact ⟨(a1), (0), RS, RS, H', ⟨Nat.le_refl _⟩, (MD HM).pick []⟩
 case round =>
  clear H' HM
  obtain ⟨x1_1, x5_1, rfl, rfl, HA, HK1, HM⟩ := hrel
  cases gk with
  | zero => exact absurd HA.out (by simp [laws_heldStringS.l0])
  | succ k1 =>
   have H := HA.out
   clear HA
   simp only [laws_heldStringS.l0] at H
   go_upto_if 9 with (fail)
   replace H := IT H; rcases H with ⟨c3, H⟩ | ⟨c3, H⟩
   ·have c3b0 := decide_eq_true c3
    clear c3
    first|rw [c3b0]|(simp only [i64_w, i32_w]; rw [c3b0])|skip
    try go_wp2
    replace H := GD H; obtain ⟨c4, H⟩ := H
    have c4b0 := decide_eq_true c4
    clear c4
    replace H := BN H; obtain ⟨t1503, A5, H⟩ := H
    have p1502 : 0 ≤ (x5_1 : Int) := of_decide_eq_true AS
    have q1502 : (x5_1 : Int) < (l0.length : Int) := of_decide_eq_true AS
    obtain ⟨ad1502, e1502, hx1502_0⟩ := Kd.at_string (HM.came HR0.out) x5_1 p1502 q1502
    cases e1502
    replace p1502 := eq_true p1502
    replace q1502 := eq_true q1502
    refine RGN 7 [0, 1, 2, 3, 4, 5, 6] (fun a0 b a w' => a = putSel a0 b [(0, 12, .slice (some ad1502) l0.length c0), (1, 13, .int .i64 x5_1), (2, 14, .pointer (some (ad1502.add (x5_1).toNat))), (3, 15, .string (rdOf ByteArray.empty l0 x5_1)), (4, 16, .int .i64 x1_1), (5, 17, .string t1503), (6, 18, .bool ((rdOf ByteArray.empty l0 x5_1).toList != t1503.toList))] ∧ Mem w [] w' []) laws_heldStringS.tab4 laws_heldStringS.bits4 ?_ ?_ ?_
    ·exact ⟨PS0' rfl _, (HM.drew).pick []⟩
    ·clear HM
     refine SY ?_ ?_
     ·intro b a w ha HM hb hon hoff K hK
      have e0 := PG ha 0
      exact VL (.slice (some ad1502) l0.length c0) (hK.out _ _ ⟨PUT ha 0 hb, HM⟩)
     refine SY ?_ ?_
     ·intro b a w ha HM hb hon hoff K hK
      have e5 := PG ha 5
      exact VL (.int .i64 x5_1) (hK.out _ _ ⟨PUT ha 1 hb, HM⟩)
     refine SY ?_ ?_
     ·intro b a w ha HM hb hon hoff K hK
      have p1502 : 0 ≤ (x5_1 : Int) := of_decide_eq_true AS
      have q1502 : (x5_1 : Int) < (l0.length : Int) := of_decide_eq_true AS
      obtain ⟨ad1502, e1502, hx1502_0⟩ := Kd.at_string (HM.came HR0.out) x5_1 p1502 q1502
      obtain rfl := Option.some.inj e1502
      replace p1502 := eq_true p1502
      replace q1502 := eq_true q1502
      have e12 := PE ha 0 hon
      have e13 := PE ha 1 hon
      exact VL (.pointer (some (ad1502.add (x5_1).toNat))) (hK.out _ _ ⟨PUT ha 2 hb, HM⟩)
     refine SY ?_ ?_
     ·intro b a w ha HM hb hon hoff K hK
      have p1502 : 0 ≤ (x5_1 : Int) := of_decide_eq_true AS
      have q1502 : (x5_1 : Int) < (l0.length : Int) := of_decide_eq_true AS
      obtain ⟨ad1502, e1502, hx1502_0⟩ := Kd.at_string (HM.came HR0.out) x5_1 p1502 q1502
      obtain rfl := Option.some.inj e1502
      replace p1502 := eq_true p1502
      replace q1502 := eq_true q1502
      have e14 := PE ha 2 hon
      exact VL (.string (rdOf ByteArray.empty l0 x5_1)) (hK.out _ _ ⟨PUT ha 3 hb, HM⟩)
     refine SY ?_ ?_
     ·intro b a w ha HM hb hon hoff K hK
      have e1 := PG ha 1
      exact VL (.int .i64 x1_1) (hK.out _ _ ⟨PUT ha 4 hb, HM⟩)
     refine SY ?_ ?_
     ·intro b a w ha HM hb hon hoff K hK
      have e16 := PE ha 4 hon
      refine ST (eC (some 17) rfl #[.int .i64 x1_1] rfl Try.func37 (laws_markText.calls k1 x1_1 t1503 _ A5.out) ?_ (hargs := by (simp only [List.map_toArray, List.map_cons, List.map_nil, evc, eval_of e16]) <;> rfl))
      rintro e w7 ⟨rfl, hR⟩
      refine ⟨_, rfl, ?_⟩
      replace HM := HM.call hR
      clear hR
      exact hK.out _ _ ⟨PUT ha 5 hb, (HM).pick []⟩
     refine SY ?_ ?_
     ·intro b a w ha HM hb hon hoff K hK
      have e15 := PE ha 3 hon
      have e17 := PE ha 5 hon
      exact VL (.bool ((rdOf ByteArray.empty l0 x5_1).toList != t1503.toList)) (hK.out _ _ ⟨PUT ha 6 hb, HM⟩)
     exact steps_nil
    rintro _ w8 ⟨rfl, HM⟩
    simp only [putSel, if_true, Act.put, List.setIfInBounds_toArray, List.set_cons_zero, List.set_cons_succ, gt_iff_lt, ge_iff_le]
    replace H := GD H; obtain ⟨c9, H⟩ := H
    obtain ⟨c9b0, c9b1⟩ := BE c9
    clear c9
    (first | rw [c9b0] | rw [c9b1] | skip)
    have H' := Aside0.mk H
    clear H
    go_wp2
    go_roundg k1
    case measure => have := HK1.out; omega
    case rel => exact ⟨(wrap64 (x1_1 + 1)), (wrap64 (x5_1 + 1)), RS, RS, H', ⟨by have := HK1.out; omega⟩, (MD HM).pick []⟩
   ·have c3b0 := decide_eq_false c3
    clear c3
    first|rw [c3b0]|(simp only [i64_w, i32_w]; rw [c3b0])|skip
    obtain rfl := Option.some.inj H
    go_wp2
    go_ret
    exact ⟨ER, (MD HM).pick []⟩
def laws_FnExactSurvey.j0 : Nat → List ByteArray → Int → List ByteArray → List ByteArray → Bool → Option (Bool)
 | 0, _, _, _, _, _ => none
 | k + 1, x0, x1, x6, x8, x46 => if x46 = true then (none) else ((laws_markStringS.f k x8 1).bind fun bt1525 => ((laws_heldStringS.f k bt1525.2 1).bind fun t1527 => (if t1527 < 0 then (none) else (if t1527 = bt1525.1 then ((laws_toStringS.f k x0).bind fun t1528 => ((impl_Survey.f k t1528 x1).bind fun t1531 => ((laws_eqStringS.f k t1531 x6).bind fun t1534 => (if t1534 = true then ((laws_heldStringS.f k bt1525.2 1).bind fun t1535 => (if t1535 < 0 then (none) else (if t1535 = bt1525.1 then (some true) else (none)))) else (none))))) else (none)))))
def laws_FnExactSurvey.f (k : Nat) (l0 : List ByteArray) (a1 : Int) : Option (Bool) := (laws_szStringS.f k l0 1048576).bind fun t1504 => (if t1504 < 0 then (some true) else ((laws_toStringS.f k l0).bind fun t1505 => ((spec_Survey.f k t1505 a1).bind fun t1508 => ((laws_toStringS.f k l0).bind fun t1511 => ((impl_Survey.f k t1511 a1).bind fun t1514 => ((laws_eqStringS.f k t1514 t1508).bind fun t1517 => (if t1517 = true then ((laws_toStringS.f k l0).bind fun t1518 => ((laws_eqStringS.f k t1511 t1518).bind fun t1521 => (if t1521 = true then ((laws_markStringS.f k t1511 1).bind fun bt1522 => (if bt1522.1 < 0 then (laws_FnExactSurvey.j0 k l0 a1 t1508 t1514 true) else ((laws_eqStringS.f k t1514 t1508).bind fun t1524 => (laws_FnExactSurvey.j0 k l0 a1 t1508 t1514 (!t1524))))) else (none)))) else (none))))))))
theorem laws_FnExactSurvey.calls (k : Nat) (A0 : Option Addr) (c0 : Nat) (l0 : List ByteArray) (a1 : Int) (r : Bool) (w : World) (hr0 : Kd.C Kd.string w A0 l0.length l0) (hc0 : l0.length ≤ c0) (h : laws_FnExactSurvey.f k l0 a1 = some r) :
  Calls Try.prog 4 #[.slice A0 l0.length c0, .int .i64 a1] w fun e w' => e = .returned (.bool r) ∧ Below w.heap.size w w' := by
 have HR0 := Aside0.mk hr0
 have HC0 := Aside0.mk hc0
 clear hr0 hc0
 have HM := Mem.nil w
 have H := h
 clear h
 unfold laws_FnExactSurvey.f at H
 go_enter Try.func4, Try.ntmps4
 replace H := BN H; obtain ⟨t1504, A3, H⟩ := H
 go_upto_if 17 with (first | ((with_reducible refine gC 14 rfl ?_); refine pC (some 15) rfl #[.slice A0 l0.length c0, .int .i64 1048576] rfl Try.func14 (laws_szStringS.calls k _ _ l0 1048576 t1504 _ (HM.came HR0.out) HC0.out A3.out) ?_; rintro e w4 ⟨rfl, hd⟩; refine ⟨_, rfl, ?_⟩; replace HM := HM.drawn hd; clear hd))
 replace H := IT H; rcases H with ⟨c5, H⟩ | ⟨c5, H⟩
 ·have c5b0 := decide_eq_true c5
  clear c5
  first|rw [c5b0]|(simp only [i64_w, i32_w]; rw [c5b0])|skip
  obtain rfl := Option.some.inj H
  go_wp2
  go_ret
  exact ⟨ER, HM.bel⟩
 ·have c5b0 := decide_eq_false c5
  clear c5
  first|rw [c5b0]|(simp only [i64_w, i32_w]; rw [c5b0])|skip
  replace H := BN H; obtain ⟨t1505, A6, H⟩ := H
  replace H := BN H; obtain ⟨t1508, A8, H⟩ := H
  replace H := BN H; obtain ⟨t1511, A11, H⟩ := H
  replace H := BN H; obtain ⟨t1514, A13, H⟩ := H
  replace H := BN H; obtain ⟨t1517, A16, H⟩ := H
  replace H := GD H
  obtain ⟨c20, H⟩ := H
  subst c20
  replace H := BN H; obtain ⟨t1518, A21, H⟩ := H
  replace H := BN H; obtain ⟨t1521, A23, H⟩ := H
  replace H := GD H
  obtain ⟨c26, H⟩ := H
  subst c26
  replace H := BN H; obtain ⟨⟨t1522, t1523⟩, A27, H⟩ := H
  have HC29 := Aside0.mk H
  clear H
  go_upto_region 14 with (first | ((with_reducible refine gC 16 rfl ?_); refine pC (some 19) rfl #[.slice A0 l0.length c0] rfl Try.func16 (laws_toStringS.calls k _ _ l0 t1505 _ (HM.came HR0.out) HC0.out A6.out) ?_; rintro e w7 ⟨v1506, rfl, hR⟩; refine ⟨_, rfl, ?_⟩; replace HM := HM.call hR; clear hR; obtain ⟨Xo10, ko10, rfl⟩ := HM.rdR 0 rfl) | ((with_reducible refine gC 15 rfl ?_); refine pC (some 21) rfl #[.slice Xo10 t1505.length ko10, .int .i64 a1] rfl Try.func15 (spec_Survey.calls k _ _ t1505 a1 t1508 _ (HM.CR 0 rfl).2.2 (HM.CR 0 rfl).2.1 A8.out) ?_; rintro e w9 ⟨v1509, rfl, hR⟩; refine ⟨_, rfl, ?_⟩; replace HM := HM.call hR; clear hR) | ((with_reducible refine gC 16 rfl ?_); refine pC (some 23) rfl #[.slice A0 l0.length c0] rfl Try.func16 (laws_toStringS.calls k _ _ l0 t1511 _ (HM.came HR0.out) HC0.out A11.out) ?_; rintro e w12 ⟨v1512, rfl, hR⟩; refine ⟨_, rfl, ?_⟩; replace HM := HM.call hR; clear hR; obtain ⟨Xo15, ko15, rfl⟩ := HM.rdR 2 rfl) | ((with_reducible refine gC 13 rfl ?_); refine pC (some 26) rfl #[.slice Xo15 t1511.length ko15, .int .i64 a1] rfl Try.func13 (impl_Survey.calls k _ _ t1511 a1 t1514 _ (HM.CR 2 rfl).2.2 (HM.CR 2 rfl).2.1 A13.out) ?_; rintro e w14 ⟨v1515, rfl, hR⟩; refine ⟨_, rfl, ?_⟩; replace HM := HM.call hR; clear hR; obtain ⟨Xo18, ko18, rfl⟩ := HM.rdR 3 rfl; obtain ⟨Xo19, ko19, rfl⟩ := HM.rdR 1 rfl) | ((with_reducible refine gC 17 rfl ?_); refine pC (some 29) rfl #[.slice Xo18 t1514.length ko18, .slice Xo19 t1508.length ko19] rfl Try.func17 (laws_eqStringS.calls k _ _ t1514 _ _ t1508 true _ (HM.CR 3 rfl).2.2 (HM.CR 3 rfl).2.1 (HM.CR 1 rfl).2.2 (HM.CR 1 rfl).2.1 A16.out) ?_; rintro e w17 ⟨rfl, hd⟩; refine ⟨_, rfl, ?_⟩; replace HM := HM.drawn hd; clear hd) | ((with_reducible refine gC 16 rfl ?_); refine pC (some 33) rfl #[.slice A0 l0.length c0] rfl Try.func16 (laws_toStringS.calls k _ _ l0 t1518 _ (HM.came HR0.out) HC0.out A21.out) ?_; rintro e w22 ⟨v1519, rfl, hR⟩; refine ⟨_, rfl, ?_⟩; replace HM := HM.call hR; clear hR; obtain ⟨Xo25, ko25, rfl⟩ := HM.rdR 4 rfl) | ((with_reducible refine gC 17 rfl ?_); refine pC (some 34) rfl #[.slice Xo15 t1511.length ko15, .slice Xo25 t1518.length ko25] rfl Try.func17 (laws_eqStringS.calls k _ _ t1511 _ _ t1518 true _ (HM.CR 2 rfl).2.2 (HM.CR 2 rfl).2.1 (HM.CR 4 rfl).2.2 (HM.CR 4 rfl).2.1 A23.out) ?_; rintro e w24 ⟨rfl, hd⟩; refine ⟨_, rfl, ?_⟩; replace HM := HM.drawn hd; clear hd) | ((with_reducible refine gC 18 rfl ?_); refine pC (some 38) rfl #[.slice Xo15 t1511.length ko15, .int .i64 1] rfl Try.func18 (laws_markStringS.calls k (.slice Xo15 t1511.length ko15) t1511 1 t1522 t1523 _ _ _ (HM.focus [0, 1, 3, 4] [2]) A27.out) ?_; rintro e w28 ⟨rfl, hR⟩; refine ⟨_, rfl, ?_⟩; replace HM := nzM hR.unfocus; clear hR))
  replace HM := nzM HM
  go_cut [46] (fun v46 wc => ∃ (kq : Nat) (x46_28 : Bool), v46 = .bool x46_28 ∧ Aside0 (laws_FnExactSurvey.j0 kq l0 a1 t1508 t1514 x46_28 = some r) ∧ Aside0 (kq ≤ k) ∧ Mem w [] wc [rowR Kd.string 9 (.slice Xo19 t1508.length ko19) t1508, rowR Kd.string 9 (.slice Xo18 t1514.length ko18) t1514])
  case first =>
   have H := HC29.out
   clear HC29
   replace H := IT H; rcases H with ⟨c30, H⟩ | ⟨c30, H⟩
   ·have c30b0 : decide (t1522 < 0) = true := decide_eq_true c30
    clear c30
    have H' := Aside0.mk H
    clear H
    go_wp2
    go_meet
    case rel => exact ⟨_, (true), RS, H', ⟨by first | omega | exact Nat.le_refl _⟩, (MD HM).pick [1, 2]⟩
   ·have c30b0 : decide (t1522 < 0) = false := decide_eq_false c30
    clear c30
    replace H := BN H; obtain ⟨t1524, A31, H⟩ := H
    have H' := Aside0.mk H
    clear H
    go_wp2_with (first | ((with_reducible refine gC 17 rfl ?_); refine pC (some 44) rfl #[.slice Xo18 t1514.length ko18, .slice Xo19 t1508.length ko19] rfl Try.func17 (laws_eqStringS.calls k _ _ t1514 _ _ t1508 t1524 _ (HM.CR 2 rfl).2.2 (HM.CR 2 rfl).2.1 (HM.CR 1 rfl).2.2 (HM.CR 1 rfl).2.1 A31.out) ?_; rintro e w32 ⟨rfl, hd⟩; refine ⟨_, rfl, ?_⟩; replace HM := HM.drawn hd; clear hd))
    go_meet
    case rel => exact ⟨_, (!t1524), RS, H', ⟨by first | omega | exact Nat.le_refl _⟩, (MD HM).pick [1, 2]⟩
  case rest =>
   clear HC29 HM
   obtain ⟨kq, x46_28, rfl, HA, HJ28, HM⟩ := hcut
   cases kq with
   | zero => exact absurd HA.out (by simp [laws_FnExactSurvey.j0])
   | succ kj28 =>
    have H := HA.out
    clear HA
    simp only [laws_FnExactSurvey.j0] at H
    replace H := GN H
    obtain ⟨c33, H⟩ := H
    replace c33 := Bool.eq_false_iff.mpr c33
    subst c33
    replace H := BN H; obtain ⟨⟨t1525, t1526⟩, A34, H⟩ := H
    replace H := BN H; obtain ⟨t1527, A36, H⟩ := H
    replace H := GN H; obtain ⟨c38, H⟩ := H
    have c38b0 : decide (t1527 < 0) = false := decide_eq_false c38
    clear c38
    replace H := GD H; obtain ⟨c39, H⟩ := H
    have c39b0 : (t1527 == t1525) = true := beq_iff_eq.mpr c39
    have c39b1 : (t1527 != t1525) = false := bne_eq_false_iff_eq.mpr c39
    clear c39
    replace H := BN H; obtain ⟨t1528, A40, H⟩ := H
    replace H := BN H; obtain ⟨t1531, A42, H⟩ := H
    replace H := BN H; obtain ⟨t1534, A45, H⟩ := H
    replace H := GD H
    obtain ⟨c48, H⟩ := H
    subst c48
    replace H := BN H; obtain ⟨t1535, A49, H⟩ := H
    replace H := GN H; obtain ⟨c51, H⟩ := H
    have c51b0 : decide (t1535 < 0) = false := decide_eq_false c51
    clear c51
    replace H := GD H; obtain ⟨c52, H⟩ := H
    have c52b0 : (t1535 == t1525) = true := beq_iff_eq.mpr c52
    have c52b1 : (t1535 != t1525) = false := bne_eq_false_iff_eq.mpr c52
    clear c52
    obtain rfl := Option.some.inj H
    go_wp2_with (first | ((with_reducible refine gC 18 rfl ?_); refine pC (some 49) rfl #[.slice Xo18 t1514.length ko18, .int .i64 1] rfl Try.func18 (laws_markStringS.calls kj28 (.slice Xo18 t1514.length ko18) t1514 1 t1525 t1526 _ _ _ (HM.focus [0] [1]) A34.out) ?_; rintro e w35 ⟨rfl, hR⟩; refine ⟨_, rfl, ?_⟩; replace HM := nzM hR.unfocus; clear hR) | ((with_reducible refine gC 19 rfl ?_); refine pC (some 52) rfl #[.slice Xo18 t1526.length ko18, .int .i64 1] rfl Try.func19 (laws_heldStringS.calls kj28 _ _ t1526 1 t1527 _ (HM.CR 1 rfl).2.2 (by rw [← (HM.CR 1 rfl).1]; exact (HM.CR 1 rfl).2.1) A36.out) ?_ (hargs := by (try simp only [List.map_toArray, List.map_cons, List.map_nil]); show (#[.slice Xo18 t1514.length ko18, .int .i64 1] : Array Value) = _; rw [(HM.CR 1 rfl).1]); rintro e w37 ⟨rfl, hR⟩; refine ⟨_, rfl, ?_⟩; replace HM := HM.call hR; clear hR) | ((with_reducible refine gC 16 rfl ?_); refine pC (some 59) rfl #[.slice A0 l0.length c0] rfl Try.func16 (laws_toStringS.calls kj28 _ _ l0 t1528 _ (HM.came HR0.out) HC0.out A40.out) ?_; rintro e w41 ⟨v1529, rfl, hR⟩; refine ⟨_, rfl, ?_⟩; replace HM := HM.call hR; clear hR; obtain ⟨Xo44, ko44, rfl⟩ := HM.rdR 2 rfl) | ((with_reducible refine gC 13 rfl ?_); refine pC (some 61) rfl #[.slice Xo44 t1528.length ko44, .int .i64 a1] rfl Try.func13 (impl_Survey.calls kj28 _ _ t1528 a1 t1531 _ (HM.CR 2 rfl).2.2 (HM.CR 2 rfl).2.1 A42.out) ?_; rintro e w43 ⟨v1532, rfl, hR⟩; refine ⟨_, rfl, ?_⟩; replace HM := HM.call hR; clear hR; obtain ⟨Xo47, ko47, rfl⟩ := HM.rdR 3 rfl) | ((with_reducible refine gC 17 rfl ?_); refine pC (some 64) rfl #[.slice Xo47 t1531.length ko47, .slice Xo19 t1508.length ko19] rfl Try.func17 (laws_eqStringS.calls kj28 _ _ t1531 _ _ t1508 true _ (HM.CR 3 rfl).2.2 (HM.CR 3 rfl).2.1 (HM.CR 0 rfl).2.2 (HM.CR 0 rfl).2.1 A45.out) ?_; rintro e w46 ⟨rfl, hd⟩; refine ⟨_, rfl, ?_⟩; replace HM := HM.drawn hd; clear hd) | ((with_reducible refine gC 19 rfl ?_); refine pC (some 68) rfl #[.slice Xo18 t1526.length ko18, .int .i64 1] rfl Try.func19 (laws_heldStringS.calls kj28 _ _ t1526 1 t1535 _ (HM.CR 1 rfl).2.2 (by rw [← (HM.CR 1 rfl).1]; exact (HM.CR 1 rfl).2.1) A49.out) ?_ (hargs := by (try simp only [List.map_toArray, List.map_cons, List.map_nil]); show (#[.slice Xo18 t1514.length ko18, .int .i64 1] : Array Value) = _; rw [(HM.CR 1 rfl).1]); rintro e w50 ⟨rfl, hR⟩; refine ⟨_, rfl, ?_⟩; replace HM := HM.call hR; clear hR))
    go_ret
    exact ⟨ER, HM.bel⟩
end Go.Proofs.Ytlokjgngjgbpmaa.G
