/- Part 3 of the claim FnExactSurvey, merged by pack.py (this session's program) out of: the print's words, cut to what is needed; texts that gen.py printed (it runs the kit's print in place); texts of this session. -/
import Derived.Test.YtlokjgngjgbpmaaKFnExactSurvey1
import Derived.Test.YtlokjgngjgbpmaaKFnExactSurvey2
namespace Go.Proofs.Ytlokjgngjgbpmaa.Mm
end Go.Proofs.Ytlokjgngjgbpmaa.Mm
namespace Go.Proofs.Ytlokjgngjgbpmaa.Sh
end Go.Proofs.Ytlokjgngjgbpmaa.Sh
set_option maxHeartbeats 8000000
set_option maxRecDepth 100000
namespace Go.Proofs.Ytlokjgngjgbpmaa.G
open Go.RowKit Go.Proofs.YtlokjgngjgbpmaaW.PrintWords Go.Proofs.YtlokjgngjgbpmaaW.PrintLast Go.Proofs.YtlokjgngjgbpmaaW.PrintMore Go.Proofs.Ytlokjgngjgbpmaa.Sh
attribute [local go_sem] max2_int min2_int max_two min_two max_three min_three max_four min_four
set_option linter.unusedVariables false
set_option linter.unusedSimpArgs false
open Go.Proofs.Ytlokjgngjgbpmaa.Mm
def spec_l10Without.l0 : Nat → ByteArray → List (S67) → List (S67) → Int → Int → Option ((List (S67)))
 | 0, _, _, _, _, _ => none
 | k + 1, x1, x5, x9, x10, x11 => if x11 < x10 then (if 0 ≤ x11 then (if x11 < (x9.length : Int) then (if ((rd_T67 x9 x11).f0).toList = x1.toList then (spec_l10Without.l0 k x1 x5 x9 x10 (wrap64 (x11 + 1))) else (if x5.length < 3518437208883 then (spec_l10Without.l0 k x1 (x5 ++ [(⟨(rd_T67 x9 x11).f0, (rd_T67 x9 x11).f1, (rd_T67 x9 x11).f2⟩ : S67)]) x9 x10 (wrap64 (x11 + 1))) else (none))) else (none)) else (none)) else (some x5)
def spec_l10Without.f (k : Nat) (l0 : List (S67)) (a1 : ByteArray) : Option ((List (S67))) := spec_l10Without.l0 k a1 (([] : List (S67))) l0 (l0.length : Int) 0
theorem spec_l10Without.calls (k : Nat) (A0 : Option Addr) (c0 : Nat) (l0 : List (S67)) (a1 : ByteArray) (r : List (S67)) (w : World) (hr0 : Kd.C k67 w A0 l0.length l0) (hc0 : l0.length ≤ c0) (h : spec_l10Without.f k l0 a1 = some r) :
  Calls Try.prog 118 #[.slice A0 l0.length c0, .string a1] w fun e w' => ∃ v0_ : Value, e = .returned (v0_) ∧ Mem w [] w' [rowR k67 67 v0_ r] := by
 have hu67 := Try.underlying67
 have HR0 := Aside0.mk hr0
 have HC0 := Aside0.mk hc0
 clear hr0 hc0
 have HM := Mem.nil w
 have H := h
 clear h
 unfold spec_l10Without.f at H
 go_enter Try.func118, Try.ntmps118
 have H' := Aside0.mk H
 clear H
 go_wp2_with (first | ((with_reducible refine gN 8 rfl ?_); refine pL 8 k67 67 ([] : List (S67)) [] (Reps.none _ _) HM rfl ?_; clear HM; intro v1198 w3 HM))
 go_loopg [5, 11] k (fun kq v5 v11 w' => ∃ (x5_1 : List (S67)) (x11_1 : Int), v11 = .int .i64 x11_1 ∧ Aside0 (spec_l10Without.l0 kq a1 x5_1 l0 (l0.length : Int) x11_1 = some r) ∧ Aside0 (kq ≤ k) ∧ Mem w [] w' [rowR k67 67 v5 x5_1])
 case atStart => exact ⟨((([] : List (S67)))), (0), RS, H', ⟨Nat.le_refl _⟩, (MD HM).pick [0]⟩
 case round =>
  clear H' HM
  obtain ⟨x5_1, x11_1, rfl, HA, HK1, HM⟩ := hrel
  cases gk with
  | zero => exact absurd HA.out (by simp [spec_l10Without.l0])
  | succ k1 =>
   have H := HA.out
   clear HA
   simp only [spec_l10Without.l0] at H
   go_upto_if 12 with (fail)
   replace H := IT H; rcases H with ⟨c4, H⟩ | ⟨c4, H⟩
   ·have c4b0 := decide_eq_true c4
    clear c4
    first|rw [c4b0]|(simp only [i64_w, i32_w]; rw [c4b0])|skip
    replace H := GD H; obtain ⟨c5, H⟩ := H
    have c5b0 := decide_eq_true c5
    clear c5
    replace H := GD H; obtain ⟨c6, H⟩ := H
    have c6b0 := decide_eq_true c6
    clear c6
    have p1200 : 0 ≤ (x11_1 : Int) := of_decide_eq_true AS
    have q1200 : (x11_1 : Int) < (l0.length : Int) := of_decide_eq_true AS
    obtain ⟨ad1200, e1200, hx1200_0, hx1200_1, hx1200_2⟩ := at_T67 (HM.came HR0.out) x11_1 p1200 q1200
    cases e1200
    replace p1200 := eq_true p1200
    replace q1200 := eq_true q1200
    go_upto_if 18 with (first | ((with_reducible refine gN 7 rfl ?_); refine pB 7 67 [.string (⟨#[]⟩ : ByteArray), .string (⟨#[]⟩ : ByteArray), .int .i64 0] HM rfl ?_; clear HM; intro gb1201 w7 HM) | ((with_reducible refine gS 7 rfl ?_); refine pS 1 7 0 [.string ((rd_T67 l0 x11_1).f0), .string ((rd_T67 l0 x11_1).f1), .int .i64 ((rd_T67 l0 x11_1).f2)] HM rfl rfl ?_; clear HM; intro w8 HM; obtain ⟨_,_,_,_,_,_⟩ := bk3 (HM.bx 1 rfl)))
    replace HM := nzM HM
    replace H := IT H; rcases H with ⟨c10, H⟩ | ⟨c10, H⟩
    ·obtain ⟨c10b0, c10b1⟩ := BE c10
     clear c10
     first|rw [c10b0]|(simp only [i64_w, i32_w]; rw [c10b0])|skip
     have H' := Aside0.mk H
     clear H
     go_wp2
     go_roundg k1
     case measure => have := HK1.out; omega
     case rel => exact ⟨(x5_1), (wrap64 (x11_1 + 1)), RS, H', ⟨by have := HK1.out; omega⟩, (MD HM).pick [0]⟩
    ·obtain ⟨c10b0, c10b1⟩ := BF c10
     first|rw [c10b0]|(simp only [i64_w, i32_w]; rw [c10b0])|skip
     replace H := GD H; obtain ⟨c11, H⟩ := H
     have LMc11 := Aside0.mk c11
     clear c11
     have H' := Aside0.mk H
     clear H
     go_wp2_with (first | ((with_reducible refine gN 21 rfl ?_); refine pL 21 k67 67 [(⟨(rd_T67 l0 x11_1).f0, (rd_T67 l0 x11_1).f1, (rd_T67 l0 x11_1).f2⟩ : S67)] [.string ((rd_T67 l0 x11_1).f0), .string ((rd_T67 l0 x11_1).f1), .int .i64 ((rd_T67 l0 x11_1).f2)] (Reps.c3 (show Kd.M k67 _ _ _ (⟨(rd_T67 l0 x11_1).f0, (rd_T67 l0 x11_1).f1, (rd_T67 l0 x11_1).f2⟩ : S67) [.string ((rd_T67 l0 x11_1).f0), .string ((rd_T67 l0 x11_1).f1), .int .i64 ((rd_T67 l0 x11_1).f2)] from (k67_mkM _ _ _ (⟨(rd_T67 l0 x11_1).f0, (rd_T67 l0 x11_1).f1, (rd_T67 l0 x11_1).f2⟩ : S67))) (Reps.none _ _)) HM rfl ?_; clear HM; intro v13 w12 HM; obtain ⟨Xv13, kv13, rfl⟩ := HM.rdR 2 rfl) | ((with_reducible refine gate_builtin (b := .append) (xs := #[.tmp 19, .tmp 21]) rfl ?_); refine pA 0 (.tmp 19) (.tmp 21) 68 67 k67 u5 x5_1 [(⟨(rd_T67 l0 x11_1).f0, (rd_T67 l0 x11_1).f1, (rd_T67 l0 x11_1).f2⟩ : S67)] Xv13 ([(⟨(rd_T67 l0 x11_1).f0, (rd_T67 l0 x11_1).f1, (rd_T67 l0 x11_1).f2⟩ : S67)].length) kv13 HM rfl Try.underlying68 info67 rfl (HM.CR 2 rfl).2.2 (by have h_ := LMc11.out; simp only [List.length_singleton]; omega) ?_; clear HM; intro v1203 w14 HM))
     go_roundg k1
     case measure => have := HK1.out; omega
     case rel => exact ⟨((x5_1 ++ [(⟨(rd_T67 l0 x11_1).f0, (rd_T67 l0 x11_1).f1, (rd_T67 l0 x11_1).f2⟩ : S67)])), (wrap64 (x11_1 + 1)), RS, H', ⟨by have := HK1.out; omega⟩, (MD HM).pick [0]⟩
   ·have c4b0 := decide_eq_false c4
    clear c4
    first|rw [c4b0]|(simp only [i64_w, i32_w]; rw [c4b0])|skip
    obtain rfl := Option.some.inj H
    go_wp2
    go_ret
    exact ⟨_, ER, (MD HM).pick [0]⟩
def spec_l11Touch.f (k : Nat) (a0_0 : Int) (a0_1 : Int) (l0_2 : List (S67)) (a1 : Int) : Option (Int × Int × (List (S67))) := if 0 ≤ a1 then (if a1 < (l0_2.length : Int) then (if a0_0 = 2 then ((spec_l10Without.f k l0_2 ((rd_T67 l0_2 a1).f0)).bind fun t1209 => (if t1209.length < 3518437208883 then (some (a0_0, a0_1, (t1209 ++ [(⟨(rd_T67 l0_2 a1).f0, (rd_T67 l0_2 a1).f1, (rd_T67 l0_2 a1).f2⟩ : S67)]))) else (none))) else (if a0_0 = 3 then (some (a0_0, a0_1, (l0_2.set (a1 : Int).toNat (⟨(rd_T67 l0_2 a1).f0, (rd_T67 l0_2 a1).f1, 1⟩ : S67)))) else (some (a0_0, a0_1, l0_2)))) else (none)) else (none)
def spec_l11Touch.T4 : Bool × List (List Nat × List Nat) := (true, [([], []), ([0], [0]), ([], []), ([2], [2]), ([1, 3], [1, 3]), ([], []), ([5], [5]), ([4, 6, 4], [4, 6]), ([0, 1, 2, 3, 4, 5, 6, 7], []), ([8, 7, 7, 0, 1, 2, 3, 4, 5, 6, 7], [7, 8])])
def spec_l11Touch.B4 : List Nat := [0, 1, 0, 4, 15, 0, 32, 127, 255, 511]
theorem spec_l11Touch.tab4 : rtab .any (opsOf Try.f113 4) = spec_l11Touch.T4 := by kernel_rfl
theorem spec_l11Touch.bits4 : waitsOk spec_l11Touch.T4.2 spec_l11Touch.B4 = true := by kernel_rfl
theorem spec_l11Touch.calls (k : Nat) (a0_0 : Int) (a0_1 : Int) (u9000_ : Value) (l0_2 : List (S67)) (a1 : Int) (r1 : Int) (r2 : Int) (r3 : List (S67)) (w0 w : World) (F : List SP)  (hM : Mem w0 F w [rowR k67 67 u9000_ l0_2]) (h : spec_l11Touch.f k a0_0 a0_1 l0_2 a1 = some (r1, r2, r3)) :
  Calls Try.prog 113 #[.agg #[.int .i64 a0_0, .int .i64 a0_1, u9000_], .int .i64 a1] w fun e w' => ∃ v2_ : Value, e = .returned (.agg #[.int .i64 r1, .int .i64 r2, v2_]) ∧ Mem w0 F w' [rowR k67 67 v2_ r3] := by
 have hu75 := Try.underlying75
 have hu67 := Try.underlying67
 have HM := hM
 clear hM
 have H := h
 clear h
 unfold spec_l11Touch.f at H
 go_enter Try.func113, Try.ntmps113
 replace H := GD H; obtain ⟨c7, H⟩ := H
 have c7b0 := decide_eq_true c7
 clear c7
 replace H := GD H; obtain ⟨c8, H⟩ := H
 have c8b0 := decide_eq_true c8
 clear c8
 obtain ⟨Xo3, ko3, rfl⟩ := HM.rdR 0 rfl
 go_upto_if 13 with (first | ((with_reducible refine gN 2 rfl ?_); refine pB 2 75 [.int .i64 a0_0, .int .i64 a0_1, .slice Xo3 l0_2.length ko3] HM rfl ?_; clear HM; intro gb1205 w4 HM) | ((with_reducible refine gN 4 rfl ?_); refine pB 4 75 [.int .i64 0, .int .i64 0, .slice none 0 0] HM rfl ?_; clear HM; intro gb1206 w5 HM; obtain ⟨_,_,_,_,_,_⟩ := bk3 (HM.bx 1 rfl); have pz1207 : 0 ≤ (a1 : Int) := of_decide_eq_true AS; have qz1207 : (a1 : Int) < ((l0_2.length : Int) : Int) := of_decide_eq_true AS; obtain ⟨go1207, ef1207⟩ := HM.form 0 rfl (by have h_ := (HM.CR 0 rfl).1; omega); subst ef1207; clear pz1207 qz1207; have p1207 : 0 ≤ (a1 : Int) := of_decide_eq_true AS; have q1207 : (a1 : Int) < (l0_2.length : Int) := of_decide_eq_true AS; obtain ⟨ad1207, e1207, hx1207_0, hx1207_1, hx1207_2⟩ := at_T67 (HM.CR 0 rfl).2.2 a1 p1207 q1207; obtain rfl := Option.some.inj e1207; (first | simp only [add_plain] at hx1207_0 | simp only [add_at] at hx1207_0 | simp only [Addr.add, Nat.zero_add] at hx1207_0 | skip); (first | simp only [add_plain] at hx1207_1 | simp only [add_at] at hx1207_1 | simp only [Addr.add, Nat.zero_add] at hx1207_1 | skip); (first | simp only [add_plain] at hx1207_2 | simp only [add_at] at hx1207_2 | simp only [Addr.add, Nat.zero_add] at hx1207_2 | skip); replace p1207 := eq_true p1207; replace q1207 := eq_true q1207) | ((with_reducible refine gN 5 rfl ?_); refine pB 5 67 [.string (⟨#[]⟩ : ByteArray), .string (⟨#[]⟩ : ByteArray), .int .i64 0] HM rfl ?_; clear HM; intro gb1208 w9 HM) | ((with_reducible refine gS 5 rfl ?_); refine pS 3 5 0 [.string ((rd_T67 l0_2 a1).f0), .string ((rd_T67 l0_2 a1).f1), .int .i64 ((rd_T67 l0_2 a1).f2)] HM rfl rfl ?_; clear HM; intro w10 HM; obtain ⟨_,_,_,_,_,_⟩ := bk3 (HM.bx 1 rfl)))
 replace HM := nzM HM
 replace H := IT H; rcases H with ⟨c12, H⟩ | ⟨c12, H⟩
 ·obtain ⟨c12b0, c12b1⟩ := BE c12
  clear c12
  first|rw [c12b0]|(simp only [i64_w, i32_w]; rw [c12b0])|skip
  try go_wp2
  replace H := BN H; obtain ⟨t1209, A13, H⟩ := H
  replace H := GD H; obtain ⟨c14, H⟩ := H
  have LMc14 := Aside0.mk c14
  clear c14
  refine RGN 10 [0, 1, 2, 3, 4, 5, 6, 7, 8, 9] (fun a0 b a w' => ∃ (v1210 : Value) (v20 : Value) (v1213 : Value), a = putSel a0 b [(0, 15, .pointer (some ⟨gb1205, 2, none⟩)), (1, 16, .slice (some ⟨go1207, 0, none⟩) l0_2.length ko3), (2, 17, .pointer (some ⟨gb1208, 0, none⟩)), (3, 18, .string ((rd_T67 l0_2 a1).f0)), (4, 19, v1210), (5, 20, .agg #[.string ((rd_T67 l0_2 a1).f0), .string ((rd_T67 l0_2 a1).f1), .int .i64 ((rd_T67 l0_2 a1).f2)]), (6, 21, v20), (7, 22, v1213), (8, 23, .pointer (some ⟨gb1205, 2, none⟩))] ∧ Mem w0 F w' [rowR k67 67 (.slice (some ⟨go1207, 0, none⟩) l0_2.length ko3) l0_2, sel (b 9) (box 75 gb1205 [.int .i64 a0_0, .int .i64 a0_1, v1213]) (box 75 gb1205 [.int .i64 a0_0, .int .i64 a0_1, .slice (some ⟨go1207, 0, none⟩) l0_2.length ko3]), box 75 gb1206 [.int .i64 0, .int .i64 0, .slice none 0 0], box 67 gb1208 [.string ((rd_T67 l0_2 a1).f0), .string ((rd_T67 l0_2 a1).f1), .int .i64 ((rd_T67 l0_2 a1).f2)], sel (b 7) (rowR k67 67 v1213 (t1209 ++ [(⟨(rd_T67 l0_2 a1).f0, (rd_T67 l0_2 a1).f1, (rd_T67 l0_2 a1).f2⟩ : S67)])) (sel (b 4) (rowR k67 67 v1210 t1209) (emp)), sel (b 6) (rowR k67 67 v20 [(⟨(rd_T67 l0_2 a1).f0, (rd_T67 l0_2 a1).f1, (rd_T67 l0_2 a1).f2⟩ : S67)]) (emp)]) spec_l11Touch.tab4 spec_l11Touch.bits4 ?_ ?_ ?_
  ·exact ⟨.bool false, .bool false, .bool false, PS0' rfl _, (HM.drew.ems 2).pick [0, 1, 2, 3, 4, 5]⟩
  ·clear HM
   refine SZ ?_ ?_
   ·rintro b a w ⟨v1210, v20, v1213, ha, HM⟩ hb hon hoff K hK
    replace ha := Aside0.mk ha
    have e2 := PG ha 2
    exact VL (.pointer (some ⟨gb1205, 2, none⟩)) (hK.out _ _ ⟨v1210, v20, v1213, PUT ha 0 hb, HM⟩)
   refine SZ ?_ ?_
   ·rintro b a w ⟨v1210, v20, v1213, ha, HM⟩ hb hon hoff K hK
    replace ha := Aside0.mk ha
    have HZ := HM
    replace HM := HM.sF 1 rfl (hoff 9 rfl)
    obtain ⟨_,_,_,_,_,_⟩ := bk3 (HM.bx 1 rfl)
    have e15 := PE ha 0 hon
    exact VL (.slice (some ⟨go1207, 0, none⟩) l0_2.length ko3) (hK.out _ _ ⟨v1210, v20, v1213, PUT ha 1 hb, HZ⟩)
   refine SZ ?_ ?_
   ·rintro b a w ⟨v1210, v20, v1213, ha, HM⟩ hb hon hoff K hK
    replace ha := Aside0.mk ha
    have e5 := PG ha 5
    exact VL (.pointer (some ⟨gb1208, 0, none⟩)) (hK.out _ _ ⟨v1210, v20, v1213, PUT ha 2 hb, HM⟩)
   refine SZ ?_ ?_
   ·rintro b a w ⟨v1210, v20, v1213, ha, HM⟩ hb hon hoff K hK
    replace ha := Aside0.mk ha
    obtain ⟨_,_,_,_,_,_⟩ := bk3 (HM.bx 3 rfl)
    have e17 := PE ha 2 hon
    exact VL (.string ((rd_T67 l0_2 a1).f0)) (hK.out _ _ ⟨v1210, v20, v1213, PUT ha 3 hb, HM⟩)
   refine SZ ?_ ?_
   ·rintro b a w ⟨v1210, v20, v1213, ha, HM⟩ hb hon hoff K hK
    replace ha := Aside0.mk ha
    have e16 := PE ha 1 hon
    have e18 := PE ha 3 hon
    refine ST (eC (some 19) rfl #[.slice (some ⟨go1207, 0, none⟩) l0_2.length ko3, .string ((rd_T67 l0_2 a1).f0)] rfl Try.func118 (spec_l10Without.calls k _ _ l0_2 ((rd_T67 l0_2 a1).f0) t1209 _ (HM.CR 0 rfl).2.2 (HM.CR 0 rfl).2.1 A13.out) ?_ (hargs := by (simp only [List.map_toArray, List.map_cons, List.map_nil, evc, eval_of e16, eval_of e18]) <;> rfl))
    rintro e w27 ⟨v1210, rfl, hR⟩
    refine ⟨_, rfl, ?_⟩
    replace HM := HM.call hR
    clear hR
    exact hK.out _ _ ⟨v1210, v20, v1213, PUT ha 4 hb, (HM.iF 6 rfl (hoff 7 rfl)).pick [0, 1, 2, 3, 6, 5]⟩
   refine SZ ?_ ?_
   ·rintro b a w ⟨v1210, v20, v1213, ha, HM⟩ hb hon hoff K hK
    replace ha := Aside0.mk ha
    obtain ⟨_,_,_,_,_,_⟩ := bk3 (HM.bx 3 rfl)
    have e5 := PG ha 5
    exact VL (.agg #[.string ((rd_T67 l0_2 a1).f0), .string ((rd_T67 l0_2 a1).f1), .int .i64 ((rd_T67 l0_2 a1).f2)]) (hK.out _ _ ⟨v1210, v20, v1213, PUT ha 5 hb, HM⟩)
   refine SZ ?_ ?_
   ·rintro b a w ⟨v1210, v20, v1213, ha, HM⟩ hb hon hoff K hK
    replace ha := Aside0.mk ha
    have e20 := PE ha 5 hon
    refine ST (eL 21 k67 67 [(⟨(rd_T67 l0_2 a1).f0, (rd_T67 l0_2 a1).f1, (rd_T67 l0_2 a1).f2⟩ : S67)] [.string ((rd_T67 l0_2 a1).f0), .string ((rd_T67 l0_2 a1).f1), .int .i64 ((rd_T67 l0_2 a1).f2)] (Reps.c3 (show Kd.M k67 _ _ _ (⟨(rd_T67 l0_2 a1).f0, (rd_T67 l0_2 a1).f1, (rd_T67 l0_2 a1).f2⟩ : S67) [.string ((rd_T67 l0_2 a1).f0), .string ((rd_T67 l0_2 a1).f1), .int .i64 ((rd_T67 l0_2 a1).f2)] from (k67_mkM _ _ _ (⟨(rd_T67 l0_2 a1).f0, (rd_T67 l0_2 a1).f1, (rd_T67 l0_2 a1).f2⟩ : S67))) (Reps.none _ _)) HM rfl ?_)
    clear HM
    intro v20 w29 HM
    exact hK.out _ _ ⟨v1210, v20, v1213, PUT ha 6 hb, (HM).pick [0, 1, 2, 3, 4, 6]⟩
   refine SZ ?_ ?_
   ·rintro b a w ⟨v1210, v20, v1213, ha, HM⟩ hb hon hoff K hK
    replace ha := Aside0.mk ha
    replace HM := (HM.sF 4 rfl hb).sT 4 rfl (hon 4 rfl)
    replace HM := HM.sT 5 rfl (hon 6 rfl)
    obtain ⟨Xo30, ko30, rfl⟩ := HM.rdR 5 rfl
    have e19 := PE ha 4 hon
    have e21 := PE ha 6 hon
    refine ST (eA 4 (.tmp 19) (.tmp 21) 68 67 k67 v1210 t1209 [(⟨(rd_T67 l0_2 a1).f0, (rd_T67 l0_2 a1).f1, (rd_T67 l0_2 a1).f2⟩ : S67)] Xo30 ([(⟨(rd_T67 l0_2 a1).f0, (rd_T67 l0_2 a1).f1, (rd_T67 l0_2 a1).f2⟩ : S67)].length) ko30 HM rfl Try.underlying68 info67 rfl (HM.CR 5 rfl).2.2 (by have h_ := LMc14.out; simp only [List.length_singleton]; omega) ?_ (ops := #[]) (hw := by rfl) (hs := (eval_of e19)) (hx := (eval_of e21)))
    clear HM
    intro v1213 w31 HM
    exact hK.out _ _ ⟨v1210, .slice Xo30 [(⟨(rd_T67 l0_2 a1).f0, (rd_T67 l0_2 a1).f1, (rd_T67 l0_2 a1).f2⟩ : S67)].length ko30, v1213, PUT ha 7 hb, (((HM.sF 1 rfl (hoff 9 rfl)).iF 1 rfl (hoff 9 rfl)).iT 5 rfl (hon 6 rfl)).pick [0, 1, 2, 3, 4, 5]⟩
   refine SZ ?_ ?_
   ·rintro b a w ⟨v1210, v20, v1213, ha, HM⟩ hb hon hoff K hK
    replace ha := Aside0.mk ha
    have e2 := PG ha 2
    exact VL (.pointer (some ⟨gb1205, 2, none⟩)) (hK.out _ _ ⟨v1210, v20, v1213, PUT ha 8 hb, HM⟩)
   refine SZ ?_ ?_
   ·rintro b a w ⟨v1210, v20, v1213, ha, HM⟩ hb hon hoff K hK
    replace ha := Aside0.mk ha
    replace HM := HM.sF 1 rfl hb
    replace HM := HM.sT 4 rfl (hon 7 rfl)
    obtain ⟨Xo32, ko32, rfl⟩ := HM.rdR 4 rfl
    have e23 := PE ha 8 hon
    have e22 := PE ha 7 hon
    refine ST (eS 1 23 2 [.slice Xo32 (t1209 ++ [(⟨(rd_T67 l0_2 a1).f0, (rd_T67 l0_2 a1).f1, (rd_T67 l0_2 a1).f2⟩ : S67)]).length ko32] HM rfl rfl ?_ (hp := (eval_of e23)) (hx := (by rw [eval_of e22]; rfl)))
    clear HM
    intro w33 HM
    exact hK.out _ _ ⟨v1210, v20, .slice Xo32 (t1209 ++ [(⟨(rd_T67 l0_2 a1).f0, (rd_T67 l0_2 a1).f1, (rd_T67 l0_2 a1).f2⟩ : S67)]).length ko32, PUS ha, (HM.iT 4 rfl (hon 7 rfl)).pick [0, 1, 2, 3, 4, 5]⟩
   exact steps_nil
  rintro _ w34 ⟨v1210, v20, v1213, rfl, HM⟩
  replace HM := HM.sT 1 rfl rfl
  replace HM := HM.sT 4 rfl rfl
  replace HM := HM.sT 5 rfl rfl
  simp only [putSel, if_true, Act.put, List.setIfInBounds_toArray, List.set_cons_zero, List.set_cons_succ, gt_iff_lt, ge_iff_le]
  simp only [Option.some.injEq, Prod.mk.injEq] at H
  obtain ⟨rfl, rfl, rfl⟩ := H
  obtain ⟨_,_,_,_,_,_⟩ := bk3 (HM.bx 1 rfl)
  obtain ⟨Xo36, ko36, rfl⟩ := HM.rdR 4 rfl
  go_wp2_with (first | ((with_reducible refine gS 4 rfl ?_); refine pS 2 4 0 [.int .i64 a0_0, .int .i64 a0_1, .slice Xo36 (t1209 ++ [(⟨(rd_T67 l0_2 a1).f0, (rd_T67 l0_2 a1).f1, (rd_T67 l0_2 a1).f2⟩ : S67)]).length ko36] HM rfl rfl ?_; clear HM; intro w37 HM))
  refine bodyPost_ret (results_cell_row rfl _ _ gb1206 75 #[.int .i64 a0_0, .int .i64 a0_1, .slice Xo36 (t1209 ++ [(⟨(rd_T67 l0_2 a1).f0, (rd_T67 l0_2 a1).f1, (rd_T67 l0_2 a1).f2⟩ : S67)]).length ko36] (0, 0) _ rfl (HM.bx 2 rfl) Try.underlying75 rfl (by kernel_rfl)) rfl ?_
  exact ⟨_, ER, (MD HM).pick [4]⟩
 ·obtain ⟨c12b0, c12b1⟩ := BF c12
  first|rw [c12b0]|(simp only [i64_w, i32_w]; rw [c12b0])|skip
  go_upto_if 24 with (fail)
  replace H := IT H; rcases H with ⟨c38, H⟩ | ⟨c38, H⟩
  ·obtain ⟨c38b0, c38b1⟩ := BE c38
   clear c38
   first|rw [c38b0]|(simp only [i64_w, i32_w]; rw [c38b0])|skip
   simp only [Option.some.injEq, Prod.mk.injEq] at H
   obtain ⟨rfl, rfl, rfl⟩ := H
   have p39 : 0 ≤ (a1 : Int) := of_decide_eq_true AS
   have q39 : (a1 : Int) < ((l0_2.length : Int) : Int) := of_decide_eq_true AS
   obtain ⟨hx39_0, hx39_1, hx39_2, hf39_0, hf39_1, hf39_2⟩ := HM.el3 0 rfl z67 (a1 : Int) p39 (by have h_ := (HM.CR 0 rfl).1; omega) (.string ((rd_T67 l0_2 a1).f0)) (.string ((rd_T67 l0_2 a1).f1)) (.int .i64 ((rd_T67 l0_2 a1).f2)) (fun _ _ h => k67_openM h)
   replace p39 := eq_true p39
   replace q39 := eq_true q39
   go_wp2_with (first | ((with_reducible refine gS 30 rfl ?_); refine pPR 0 30 (a1 : Int) 2 [.int .i64 1] k67 67 l0_2 (⟨(rd_T67 l0_2 a1).f0, (rd_T67 l0_2 a1).f1, 1⟩ : S67) z67 [.string ((rd_T67 l0_2 a1).f0), .string ((rd_T67 l0_2 a1).f1), .int .i64 ((rd_T67 l0_2 a1).f2)] HM rfl rfl (of_decide_eq_true AS) (by have h_ : (a1 : Int) < ((l0_2.length : Int) : Int) := of_decide_eq_true AS; have e_ := (HM.CR 0 rfl).1; omega) (fun _ _ h => k67_openM h) (k67_mkM _ _ _ (⟨(rd_T67 l0_2 a1).f0, (rd_T67 l0_2 a1).f1, 1⟩ : S67)) ?_; clear HM; intro w40 HM; obtain ⟨_,_,_,_,_,_⟩ := bk3 (HM.bx 1 rfl)) | ((with_reducible refine gS 4 rfl ?_); refine pS 2 4 0 [.int .i64 a0_0, .int .i64 a0_1, .slice (some ⟨go1207, 0, none⟩) l0_2.length ko3] HM rfl rfl ?_; clear HM; intro w42 HM))
   refine bodyPost_ret (results_cell_row rfl _ _ gb1206 75 #[.int .i64 a0_0, .int .i64 a0_1, .slice (some ⟨go1207, 0, none⟩) l0_2.length ko3] (0, 0) _ rfl (HM.bx 2 rfl) Try.underlying75 rfl (by kernel_rfl)) rfl ?_
   exact ⟨_, ER, (MD HM).pick [0]⟩
  ·obtain ⟨c38b0, c38b1⟩ := BF c38
   first|rw [c38b0]|(simp only [i64_w, i32_w]; rw [c38b0])|skip
   simp only [Option.some.injEq, Prod.mk.injEq] at H
   obtain ⟨rfl, rfl, rfl⟩ := H
   go_wp2_with (first | ((with_reducible refine gS 4 rfl ?_); refine pS 2 4 0 [.int .i64 a0_0, .int .i64 a0_1, .slice (some ⟨go1207, 0, none⟩) l0_2.length ko3] HM rfl rfl ?_; clear HM; intro w43 HM))
   refine bodyPost_ret (results_cell_row rfl _ _ gb1206 75 #[.int .i64 a0_0, .int .i64 a0_1, .slice (some ⟨go1207, 0, none⟩) l0_2.length ko3] (0, 0) _ rfl (HM.bx 2 rfl) Try.underlying75 rfl (by kernel_rfl)) rfl ?_
   exact ⟨_, ER, (MD HM).pick [0]⟩
def spec_RowGet.f (k : Nat) (a0_0 : Int) (a0_1 : Int) (l0_2 : List (S67)) (a1 : ByteArray) : Option (Int × Int × (List (S67)) × ByteArray × Bool) := (spec_RowOk.f k a0_0 a0_1 l0_2).bind fun t1218 => (if t1218 = true then ((spec_l11Copy.f a0_0 a0_1 l0_2).bind fun bt1219 => ((spec_l10At.f k l0_2 a1).bind fun t1225 => (if t1225 < 0 then (some (bt1219.1, bt1219.2.1, bt1219.2.2, (⟨#[]⟩ : ByteArray), false)) else ((spec_l11Touch.f k bt1219.1 bt1219.2.1 bt1219.2.2 t1225).bind fun bt1226 => (if 0 ≤ t1225 then (if t1225 < (l0_2.length : Int) then (some (bt1226.1, bt1226.2.1, bt1226.2.2, (rd_T67 l0_2 t1225).f1, true)) else (none)) else (none)))))) else (some (0, 0, ([] : List (S67)), (⟨#[]⟩ : ByteArray), false)))
def spec_RowGet.T7 : Bool × List (List Nat × List Nat) := (true, [([], []), ([], []), ([0, 1], [0, 1]), ([], []), ([3], [3]), ([], []), ([4, 5], [4, 5]), ([6], [6]), ([7], [7]), ([2, 2, 0, 1, 2], [2]), ([8, 9, 0, 1, 2, 3, 4, 5, 6, 7, 8, 9], [8]), ([10, 0, 1, 2, 3, 4, 5, 6, 7, 8, 9, 10], [])])
def spec_RowGet.B7 : List Nat := [0, 0, 3, 0, 8, 0, 56, 120, 248, 7, 1023, 2047]
theorem spec_RowGet.tab7 : rtab .any (opsOf Try.f94 7) = spec_RowGet.T7 := by kernel_rfl
theorem spec_RowGet.bits7 : waitsOk spec_RowGet.T7.2 spec_RowGet.B7 = true := by kernel_rfl
theorem spec_RowGet.calls (k : Nat) (a0_0 : Int) (a0_1 : Int) (A0_2 : Option Addr) (c0_2 : Nat) (l0_2 : List (S67)) (a1 : ByteArray) (r1 : Int) (r2 : Int) (r3 : List (S67)) (r4 : ByteArray) (r5 : Bool) (w : World) (hr0_2 : Kd.C k67 w A0_2 l0_2.length l0_2) (hc0_2 : l0_2.length ≤ c0_2) (h : spec_RowGet.f k a0_0 a0_1 l0_2 a1 = some (r1, r2, r3, r4, r5)) :
  Calls Try.prog 94 #[.agg #[.int .i64 a0_0, .int .i64 a0_1, .slice A0_2 l0_2.length c0_2], .string a1] w fun e w' => ∃ v2_ : Value, e = .returned (.tuple #[.agg #[.int .i64 r1, .int .i64 r2, v2_], .string r4, .bool r5]) ∧ Mem w [] w' [rowR k67 67 v2_ r3] := by
 have hu75 := Try.underlying75
 have HR0_2 := Aside0.mk hr0_2
 have HC0_2 := Aside0.mk hc0_2
 clear hr0_2 hc0_2
 have HM := Mem.nil w
 have H := h
 clear h
 unfold spec_RowGet.f at H
 go_enter Try.func94, Try.ntmps94
 replace H := BN H; obtain ⟨t1218, A6, H⟩ := H
 go_upto_if 11 with (first | ((with_reducible refine gN 2 rfl ?_); refine pB 2 75 [.int .i64 a0_0, .int .i64 a0_1, .slice A0_2 l0_2.length c0_2] HM rfl ?_; clear HM; intro gb1216 w3 HM) | ((with_reducible refine gN 4 rfl ?_); refine pB 4 75 [.int .i64 0, .int .i64 0, .slice none 0 0] HM rfl ?_; clear HM; intro gb1217 w4 HM; obtain ⟨_,_,_,_,_,_⟩ := bk3 (HM.bx 0 rfl)) | ((with_reducible refine gC 90 rfl ?_); refine pC (some 10) rfl #[.agg #[.int .i64 a0_0, .int .i64 a0_1, .slice A0_2 l0_2.length c0_2]] rfl Try.func90 (spec_RowOk.calls k a0_0 a0_1 _ _ l0_2 t1218 _ (HM.came HR0_2.out) HC0_2.out A6.out) ?_; rintro e w7 ⟨rfl, hR⟩; refine ⟨_, rfl, ?_⟩; replace HM := HM.call hR; clear hR))
 replace HM := nzM HM
 replace H := IB H
 rcases H with ⟨c8, H⟩ | ⟨c8, H⟩
 ·subst c8
  replace H := BN H; obtain ⟨⟨t1219, t1220, t1221⟩, A10, H⟩ := H
  replace H := BN H; obtain ⟨t1225, A16, H⟩ := H
  obtain ⟨_,_,_,_,_,_⟩ := bk3 (HM.bx 0 rfl)
  go_upto_if 20 with (first | ((with_reducible refine gC 112 rfl ?_); refine pC (some 14) rfl #[.agg #[.int .i64 a0_0, .int .i64 a0_1, .slice A0_2 l0_2.length c0_2]] rfl Try.func112 (spec_l11Copy.calls a0_0 a0_1 _ _ l0_2 t1219 t1220 t1221 _ (HM.came HR0_2.out) HC0_2.out A10.out) ?_; rintro e w11 ⟨v1222, rfl, hR⟩; refine ⟨_, rfl, ?_⟩; replace HM := HM.call hR; clear hR) | ((with_reducible refine gN 7 rfl ?_); refine pB 7 75 [.int .i64 0, .int .i64 0, .slice none 0 0] HM rfl ?_; clear HM; intro gb1224 w12 HM; obtain ⟨Xo13, ko13, rfl⟩ := HM.rdR 2 rfl) | ((with_reducible refine gS 7 rfl ?_); refine pS 3 7 0 [.int .i64 t1219, .int .i64 t1220, .slice Xo13 t1221.length ko13] HM rfl rfl ?_; clear HM; intro w14 HM; obtain ⟨_,_,_,_,_,_⟩ := bk3 (HM.bx 0 rfl)) | ((with_reducible refine gC 104 rfl ?_); refine pC (some 18) rfl #[.slice A0_2 l0_2.length c0_2, .string a1] rfl Try.func104 (spec_l10At.calls k _ _ l0_2 a1 t1225 _ (HM.came HR0_2.out) HC0_2.out A16.out) ?_; rintro e w17 ⟨rfl, hR⟩; refine ⟨_, rfl, ?_⟩; replace HM := HM.call hR; clear hR))
  replace HM := nzM HM
  replace H := IT H; rcases H with ⟨c18, H⟩ | ⟨c18, H⟩
  ·have c18b0 : decide (t1225 < 0) = true := decide_eq_true c18
   clear c18
   first|rw [c18b0]|(simp only [i64_w, i32_w]; rw [c18b0])|skip
   simp only [Option.some.injEq, Prod.mk.injEq] at H
   obtain ⟨rfl, rfl, rfl, rfl, rfl⟩ := H
   obtain ⟨_,_,_,_,_,_⟩ := bk3 (HM.bx 3 rfl)
   go_wp2_with (first | ((with_reducible refine gS 4 rfl ?_); refine pS 1 4 0 [.int .i64 t1219, .int .i64 t1220, .slice Xo13 t1221.length ko13] HM rfl rfl ?_; clear HM; intro w20 HM))
   refine bodyPost_ret (results_ctt rfl _ _ gb1217 75 #[.int .i64 t1219, .int .i64 t1220, .slice Xo13 t1221.length ko13] (0, 0) _ rfl (HM.bx 1 rfl) Try.underlying75 rfl (by kernel_rfl)) rfl ?_
   exact ⟨_, ER, (MD HM).pick [2]⟩
  ·have c18b0 : decide (t1225 < 0) = false := decide_eq_false c18
   clear c18
   first|rw [c18b0]|(simp only [i64_w, i32_w]; rw [c18b0])|skip
   try go_wp2
   replace H := BN H; obtain ⟨⟨t1226, t1227, t1228⟩, A21, H⟩ := H
   replace H := GD H; obtain ⟨c22, H⟩ := H
   have c22b0 : decide (0 ≤ t1225) = true := decide_eq_true c22
   clear c22
   replace H := GD H; obtain ⟨c23, H⟩ := H
   have c23b0 : decide (t1225 < (l0_2.length : Int)) = true := decide_eq_true c23
   clear c23
   have p1231 : 0 ≤ (t1225 : Int) := of_decide_eq_true AS
   have q1231 : (t1225 : Int) < (l0_2.length : Int) := of_decide_eq_true AS
   obtain ⟨ad1231, e1231, hx1231_0, hx1231_1, hx1231_2⟩ := at_T67 (HM.came HR0_2.out) t1225 p1231 q1231
   cases e1231
   replace p1231 := eq_true p1231
   replace q1231 := eq_true q1231
   refine RGN 12 [0, 1, 2, 3, 4, 5, 6, 7, 8, 9, 10, 11] (fun a0 b a w' => ∃ (v1229 : Value), a = putSel a0 b [(0, 22, .agg #[.int .i64 t1219, .int .i64 t1220, .slice Xo13 t1221.length ko13]), (1, 23, .int .i64 t1225), (2, 24, .agg #[.int .i64 t1226, .int .i64 t1227, v1229]), (3, 25, .pointer (some ⟨gb1216, 2, none⟩)), (4, 26, .slice (some ad1231) l0_2.length c0_2), (5, 27, .int .i64 t1225), (6, 28, .pointer (some (ad1231.add ((t1225).toNat * 3)))), (7, 29, .pointer (some ⟨(ad1231.add ((t1225).toNat * 3)).block, (ad1231.add ((t1225).toNat * 3)).off + 1, none⟩)), (8, 30, .string ((rd_T67 l0_2 t1225).f1)), (10, 5, .string ((rd_T67 l0_2 t1225).f1)), (11, 6, .bool true)] ∧ Mem w [] w' [box 75 gb1216 [.int .i64 a0_0, .int .i64 a0_1, .slice (some ad1231) l0_2.length c0_2], sel (b 9) (box 75 gb1217 [.int .i64 t1226, .int .i64 t1227, v1229]) (box 75 gb1217 [.int .i64 0, .int .i64 0, .slice none 0 0]), sel (b 2) (emp) (rowR k67 67 (.slice Xo13 t1221.length ko13) t1221), box 75 gb1224 [.int .i64 t1219, .int .i64 t1220, .slice Xo13 t1221.length ko13], sel (b 2) (rowR k67 67 v1229 t1228) (emp)]) spec_RowGet.tab7 spec_RowGet.bits7 ?_ ?_ ?_
   ·exact ⟨.bool false, PS0' rfl _, (HM.drew.ems 1).pick [0, 1, 2, 3, 4]⟩
   ·clear HM
    refine SZ ?_ ?_
    ·rintro b a w ⟨v1229, ha, HM⟩ hb hon hoff K hK
     replace ha := Aside0.mk ha
     obtain ⟨_,_,_,_,_,_⟩ := bk3 (HM.bx 3 rfl)
     have e7 := PG ha 7
     exact VL (.agg #[.int .i64 t1219, .int .i64 t1220, .slice Xo13 t1221.length ko13]) (hK.out _ _ ⟨v1229, PUT ha 0 hb, HM⟩)
    refine SZ ?_ ?_
    ·rintro b a w ⟨v1229, ha, HM⟩ hb hon hoff K hK
     replace ha := Aside0.mk ha
     have e8 := PG ha 8
     exact VL (.int .i64 t1225) (hK.out _ _ ⟨v1229, PUT ha 1 hb, HM⟩)
    refine SZ ?_ ?_
    ·rintro b a w ⟨v1229, ha, HM⟩ hb hon hoff K hK
     replace ha := Aside0.mk ha
     replace HM := HM.sF 2 rfl hb
     have e22 := PE ha 0 hon
     have e23 := PE ha 1 hon
     refine ST (eC (some 24) rfl #[.agg #[.int .i64 t1219, .int .i64 t1220, .slice Xo13 t1221.length ko13], .int .i64 t1225] rfl Try.func113 (spec_l11Touch.calls k t1219 t1220 (.slice Xo13 t1221.length ko13) t1221 t1225 t1226 t1227 t1228 _ _ _ (HM.focus [0, 1, 3, 4] [2]) A21.out) ?_ (hargs := by (simp only [List.map_toArray, List.map_cons, List.map_nil, evc, eval_of e22, eval_of e23]) <;> rfl))
     rintro e w30 ⟨v1229, rfl, hR⟩
     refine ⟨_, rfl, ?_⟩
     replace HM := nzM hR.unfocus
     clear hR
     exact hK.out _ _ ⟨v1229, PUT ha 2 hb, ((HM.em.sF 1 rfl (hoff 9 rfl)).iF 1 rfl (hoff 9 rfl)).pick [0, 1, 5, 2, 4]⟩
    refine SZ ?_ ?_
    ·rintro b a w ⟨v1229, ha, HM⟩ hb hon hoff K hK
     replace ha := Aside0.mk ha
     have e2 := PG ha 2
     exact VL (.pointer (some ⟨gb1216, 2, none⟩)) (hK.out _ _ ⟨v1229, PUT ha 3 hb, HM⟩)
    refine SZ ?_ ?_
    ·rintro b a w ⟨v1229, ha, HM⟩ hb hon hoff K hK
     replace ha := Aside0.mk ha
     obtain ⟨_,_,_,_,_,_⟩ := bk3 (HM.bx 0 rfl)
     have e25 := PE ha 3 hon
     exact VL (.slice (some ad1231) l0_2.length c0_2) (hK.out _ _ ⟨v1229, PUT ha 4 hb, HM⟩)
    refine SZ ?_ ?_
    ·rintro b a w ⟨v1229, ha, HM⟩ hb hon hoff K hK
     replace ha := Aside0.mk ha
     have e8 := PG ha 8
     exact VL (.int .i64 t1225) (hK.out _ _ ⟨v1229, PUT ha 5 hb, HM⟩)
    refine SZ ?_ ?_
    ·rintro b a w ⟨v1229, ha, HM⟩ hb hon hoff K hK
     replace ha := Aside0.mk ha
     have p1231 : 0 ≤ (t1225 : Int) := of_decide_eq_true AS
     have q1231 : (t1225 : Int) < (l0_2.length : Int) := of_decide_eq_true AS
     obtain ⟨ad1231, e1231, hx1231_0, hx1231_1, hx1231_2⟩ := at_T67 (HM.came HR0_2.out) t1225 p1231 q1231
     obtain rfl := Option.some.inj e1231
     replace p1231 := eq_true p1231
     replace q1231 := eq_true q1231
     have e26 := PE ha 4 hon
     have e27 := PE ha 5 hon
     exact VL (.pointer (some (ad1231.add ((t1225).toNat * 3)))) (hK.out _ _ ⟨v1229, PUT ha 6 hb, HM⟩)
    refine SZ ?_ ?_
    ·rintro b a w ⟨v1229, ha, HM⟩ hb hon hoff K hK
     replace ha := Aside0.mk ha
     have e28 := PE ha 6 hon
     exact VL (.pointer (some ⟨(ad1231.add ((t1225).toNat * 3)).block, (ad1231.add ((t1225).toNat * 3)).off + 1, none⟩)) (hK.out _ _ ⟨v1229, PUT ha 7 hb, HM⟩)
    refine SZ ?_ ?_
    ·rintro b a w ⟨v1229, ha, HM⟩ hb hon hoff K hK
     replace ha := Aside0.mk ha
     have p1231 : 0 ≤ (t1225 : Int) := of_decide_eq_true AS
     have q1231 : (t1225 : Int) < (l0_2.length : Int) := of_decide_eq_true AS
     obtain ⟨ad1231, e1231, hx1231_0, hx1231_1, hx1231_2⟩ := at_T67 (HM.came HR0_2.out) t1225 p1231 q1231
     obtain rfl := Option.some.inj e1231
     replace p1231 := eq_true p1231
     replace q1231 := eq_true q1231
     have e29 := PE ha 7 hon
     exact VL (.string ((rd_T67 l0_2 t1225).f1)) (hK.out _ _ ⟨v1229, PUT ha 8 hb, HM⟩)
    refine SZ ?_ ?_
    ·rintro b a w ⟨v1229, ha, HM⟩ hb hon hoff K hK
     replace ha := Aside0.mk ha
     replace HM := HM.sF 1 rfl hb
     replace HM := HM.sT 4 rfl (hon 2 rfl)
     obtain ⟨Xo32, ko32, rfl⟩ := HM.rdR 4 rfl
     have e4 := PG ha 4
     have e24 := PE ha 2 hon
     refine ST (eS 1 4 0 [.int .i64 t1226, .int .i64 t1227, .slice Xo32 t1228.length ko32] HM rfl rfl ?_ (hp := (eval_of e4)) (hx := (by rw [eval_of e24]; rfl)))
     clear HM
     intro w33 HM
     exact hK.out _ _ ⟨.slice Xo32 t1228.length ko32, PUS ha, (HM.iT 4 rfl (hon 2 rfl)).pick [0, 1, 2, 3, 4]⟩
    refine SZ ?_ ?_
    ·rintro b a w ⟨v1229, ha, HM⟩ hb hon hoff K hK
     replace ha := Aside0.mk ha
     have e30 := PE ha 8 hon
     exact VL (.string ((rd_T67 l0_2 t1225).f1)) (hK.out _ _ ⟨v1229, PUT ha 9 hb, HM⟩)
    refine SZ ?_ ?_
    ·rintro b a w ⟨v1229, ha, HM⟩ hb hon hoff K hK
     replace ha := Aside0.mk ha
     exact VL (.bool true) (hK.out _ _ ⟨v1229, PUT ha 10 hb, HM⟩)
    exact steps_nil
   rintro _ w34 ⟨v1229, rfl, HM⟩
   replace HM := HM.sT 1 rfl rfl
   replace HM := HM.sT 2 rfl rfl
   replace HM := HM.sT 4 rfl rfl
   simp only [putSel, if_true, Act.put, List.setIfInBounds_toArray, List.set_cons_zero, List.set_cons_succ, gt_iff_lt, ge_iff_le]
   simp only [Option.some.injEq, Prod.mk.injEq] at H
   obtain ⟨rfl, rfl, rfl, rfl, rfl⟩ := H
   go_wp2
   refine bodyPost_ret (results_ctt rfl _ _ gb1217 75 #[.int .i64 t1226, .int .i64 t1227, v1229] (0, 0) _ rfl (HM.bx 1 rfl) Try.underlying75 rfl (by kernel_rfl)) rfl ?_
   exact ⟨_, ER, (MD HM).pick [4]⟩
 ·subst c8
  simp only [Option.some.injEq, Prod.mk.injEq] at H
  obtain ⟨rfl, rfl, rfl, rfl, rfl⟩ := H
  go_wp2_with (first | ((with_reducible refine gS 4 rfl ?_); refine pS 1 4 0 [.int .i64 0, .int .i64 0, .slice none 0 0] HM rfl rfl ?_; clear HM; intro w35 HM; replace HM := HM.nl k67 67))
  refine bodyPost_ret (results_ctt rfl _ _ gb1217 75 #[.int .i64 0, .int .i64 0, .slice none 0 0] (0, 0) _ rfl (HM.bx 1 rfl) Try.underlying75 rfl (by kernel_rfl)) rfl ?_
  exact ⟨_, ER, (MD HM).pick [2]⟩
mutual
def spec_RowPut.j0 : Nat → ByteArray → ByteArray → Bool → Int → Int → List (S67) → Option (Int × Int × (List (S67)) × List ByteArray × Bool)
 | 0, _, _, _, _, _, _ => none
 | k + 1, x1, x2, x22, x1234000, x1234001, x1234002 => if x22 = true then (some (0, 0, ([] : List (S67)), ([] : List ByteArray), false)) else ((spec_l11Copy.f x1234000 x1234001 x1234002).bind fun bt1237 => ((spec_l10At.f k x1234002 x1).bind fun t1243 => (if t1243 ≥ 0 then (if 0 ≤ t1243 then (if t1243 < (bt1237.2.2.length : Int) then ((spec_l11Touch.f k bt1237.1 bt1237.2.1 (bt1237.2.2.set (t1243 : Int).toNat (⟨(rd_T67 bt1237.2.2 t1243).f0, x2, (rd_T67 bt1237.2.2 t1243).f2⟩ : S67)) t1243).bind fun bt1245 => (some (bt1245.1, bt1245.2.1, bt1245.2.2, ([] : List ByteArray), true))) else (none)) else (none)) else ((some (([] : List ByteArray) : List ByteArray)).bind fun y1250 => (if (bt1237.2.2.length : Int) = bt1237.2.1 then (spec_RowPut.l0 k x1 x2 y1250 bt1237.1 bt1237.2.1 bt1237.2.2) else (if bt1237.2.2.length < 3518437208883 then (some (bt1237.1, bt1237.2.1, (bt1237.2.2 ++ [(⟨x1, x2, 0⟩ : S67)]), y1250, true)) else (none)))))))
def spec_RowPut.l0 : Nat → ByteArray → ByteArray → List ByteArray → Int → Int → List (S67) → Option (Int × Int × (List (S67)) × List ByteArray × Bool)
 | 0, _, _, _, _, _, _ => none
 | k + 1, x1, x2, x11, x1243000, x1243001, x1243002 => if 0 < (x1243002.length : Int) then (if ((rd_T67 x1243002 0).f2) = 1 then ((some (([] : List (S67)) : List (S67))).bind fun y1256 => (if 1 ≤ (x1243002.length : Int) then ((some (x1243002.drop 1 : List (S67))).bind fun y1259 => (if y1256.length + y1259.length < 3518437208883 then ((some (y1256 ++ y1259 : List (S67))).bind fun y1263 => (if y1263.length < 3518437208883 then (spec_RowPut.l0 k x1 x2 x11 x1243000 x1243001 (y1263 ++ [(⟨(rd_T67 x1243002 0).f0, (rd_T67 x1243002 0).f1, 0⟩ : S67)])) else (none))) else (none))) else (none))) else (if x11.length < 8796093022208 then ((some (([] : List (S67)) : List (S67))).bind fun y1273 => (if 1 ≤ (x1243002.length : Int) then ((some (x1243002.drop 1 : List (S67))).bind fun y1276 => (if y1273.length + y1276.length < 3518437208883 then ((some (y1273 ++ y1276 : List (S67))).bind fun y1280 => (if y1280.length < 3518437208883 then (some (x1243000, x1243001, (y1280 ++ [(⟨x1, x2, 0⟩ : S67)]), (x11 ++ [(rd_T67 x1243002 0).f0]), true)) else (none))) else (none))) else (none))) else (none))) else (none)
end
def spec_RowPut.f (k : Nat) (a0_0 : Int) (a0_1 : Int) (l0_2 : List (S67)) (a1 : ByteArray) (a2 : ByteArray) : Option (Int × Int × (List (S67)) × List ByteArray × Bool) := (spec_RowOk.f k a0_0 a0_1 l0_2).bind fun t1235 => (if t1235 = true then ((spec_ItemOk.f k a1 a2 0).bind fun t1236 => (spec_RowPut.j0 k a1 a2 (!t1236) a0_0 a0_1 l0_2)) else (spec_RowPut.j0 k a1 a2 true a0_0 a0_1 l0_2))
def spec_RowPut.T13 : Bool × List (List Nat × List Nat) := (true, [([], []), ([], []), ([1], [1]), ([2], [2]), ([0, 3], [0, 3]), ([], []), ([5], [5]), ([4, 6, 4], [4, 6]), ([0, 1, 2, 3, 4, 5, 6, 7], []), ([8, 7, 7, 0, 1, 2, 3, 4, 5, 6, 7], [7, 8])])
def spec_RowPut.B13 : List Nat := [0, 0, 2, 6, 15, 0, 32, 127, 255, 511]
theorem spec_RowPut.tab13 : rtab .any (opsOf Try.f95 13) = spec_RowPut.T13 := by kernel_rfl
theorem spec_RowPut.bits13 : waitsOk spec_RowPut.T13.2 spec_RowPut.B13 = true := by kernel_rfl
theorem spec_RowPut.calls (k : Nat) (a0_0 : Int) (a0_1 : Int) (A0_2 : Option Addr) (c0_2 : Nat) (l0_2 : List (S67)) (a1 : ByteArray) (a2 : ByteArray) (r1 : Int) (r2 : Int) (r3 : List (S67)) (r4 : List ByteArray) (r5 : Bool) (w : World) (hr0_2 : Kd.C k67 w A0_2 l0_2.length l0_2) (hc0_2 : l0_2.length ≤ c0_2) (h : spec_RowPut.f k a0_0 a0_1 l0_2 a1 a2 = some (r1, r2, r3, r4, r5)) :
  Calls Try.prog 95 #[.agg #[.int .i64 a0_0, .int .i64 a0_1, .slice A0_2 l0_2.length c0_2], .string a1, .string a2] w fun e w' => ∃ v2_ v3_ : Value, e = .returned (.tuple #[.agg #[.int .i64 r1, .int .i64 r2, v2_], v3_, .bool r5]) ∧ Mem w [] w' [rowR k67 67 v2_ r3, rowR Kd.string 9 v3_ r4] := by
 have hu75 := Try.underlying75
 have hu67 := Try.underlying67
 have HR0_2 := Aside0.mk hr0_2
 have HC0_2 := Aside0.mk hc0_2
 clear hr0_2 hc0_2
 have HM := Mem.nil w
 have H := h
 clear h
 unfold spec_RowPut.f at H
 go_enter Try.func95, Try.ntmps95
 have HC6 := Aside0.mk H
 clear H
 go_upto_region 1 with (first | ((with_reducible refine gN 3 rfl ?_); refine pB 3 75 [.int .i64 a0_0, .int .i64 a0_1, .slice A0_2 l0_2.length c0_2] HM rfl ?_; clear HM; intro gb1233 w4 HM) | ((with_reducible refine gN 6 rfl ?_); refine pB 6 75 [.int .i64 0, .int .i64 0, .slice none 0 0] HM rfl ?_; clear HM; intro gb1234 w5 HM))
 replace HM := nzM HM
 try simp only [Act.put, List.setIfInBounds_toArray, List.set_cons_zero, List.set_cons_succ]
 go_cut [22] (fun v22 wc => ∃ (kq : Nat) (x22_5 : Bool), v22 = .bool x22_5 ∧ Aside0 (spec_RowPut.j0 kq a1 a2 x22_5 a0_0 a0_1 l0_2 = some (r1, r2, r3, r4, r5)) ∧ Aside0 (kq ≤ k) ∧ Mem w [] wc [box 75 gb1233 [.int .i64 a0_0, .int .i64 a0_1, .slice A0_2 l0_2.length c0_2], box 75 gb1234 [.int .i64 0, .int .i64 0, .slice none 0 0]])
 case first =>
  have H := HC6.out
  clear HC6
  replace H := BN H; obtain ⟨t1235, A8, H⟩ := H
  replace H := IB H
  rcases H with ⟨c10, H⟩ | ⟨c10, H⟩
  ·subst c10
   replace H := BN H; obtain ⟨t1236, A11, H⟩ := H
   have H' := Aside0.mk H
   clear H
   obtain ⟨_,_,_,_,_,_⟩ := bk3 (HM.bx 0 rfl)
   go_wp2_with (first | ((with_reducible refine gC 90 rfl ?_); refine pC (some 14) rfl #[.agg #[.int .i64 a0_0, .int .i64 a0_1, .slice A0_2 l0_2.length c0_2]] rfl Try.func90 (spec_RowOk.calls k a0_0 a0_1 _ _ l0_2 true _ (HM.came HR0_2.out) HC0_2.out A8.out) ?_; rintro e w9 ⟨rfl, hR⟩; refine ⟨_, rfl, ?_⟩; replace HM := HM.call hR; clear hR) | ((with_reducible refine gC 67 rfl ?_); refine pC (some 20) rfl #[.agg #[.string a1, .string a2, .int .i64 0]] rfl Try.func67 (spec_ItemOk.calls k a1 a2 0 t1236 _ A11.out) ?_; rintro e w12 ⟨rfl, hR⟩; refine ⟨_, rfl, ?_⟩; replace HM := HM.call hR; clear hR))
   go_meet
   case rel => exact ⟨_, (!t1236), RS, H', ⟨by first | omega | exact Nat.le_refl _⟩, (MD HM).pick [0, 1]⟩
  ·subst c10
   have H' := Aside0.mk H
   clear H
   obtain ⟨_,_,_,_,_,_⟩ := bk3 (HM.bx 0 rfl)
   go_wp2_with (first | ((with_reducible refine gC 90 rfl ?_); refine pC (some 14) rfl #[.agg #[.int .i64 a0_0, .int .i64 a0_1, .slice A0_2 l0_2.length c0_2]] rfl Try.func90 (spec_RowOk.calls k a0_0 a0_1 _ _ l0_2 false _ (HM.came HR0_2.out) HC0_2.out A8.out) ?_; rintro e w9 ⟨rfl, hR⟩; refine ⟨_, rfl, ?_⟩; replace HM := HM.call hR; clear hR))
   go_meet
   case rel => exact ⟨_, (true), RS, H', ⟨by first | omega | exact Nat.le_refl _⟩, (MD HM).pick [0, 1]⟩
 case rest =>
  clear HC6 HM
  obtain ⟨kq, x22_5, rfl, HA, HJ5, HM⟩ := hcut
  cases kq with
  | zero => exact absurd HA.out (by simp [spec_RowPut.j0])
  | succ kj5 =>
   have H := HA.out
   clear HA
   simp only [spec_RowPut.j0] at H
   go_upto_if 22 with (fail)
   replace H := IB H
   rcases H with ⟨c13, H⟩ | ⟨c13, H⟩
   ·subst c13
    simp only [Option.some.injEq, Prod.mk.injEq] at H
    obtain ⟨rfl, rfl, rfl, rfl, rfl⟩ := H
    go_wp2_with (first | ((with_reducible refine gS 6 rfl ?_); refine pS 1 6 0 [.int .i64 0, .int .i64 0, .slice none 0 0] HM rfl rfl ?_; clear HM; intro w14 HM; replace HM := HM.nl k67 67; replace HM := HM.nl Kd.string 9))
    refine bodyPost_ret (results_ctt rfl _ _ gb1234 75 #[.int .i64 0, .int .i64 0, .slice none 0 0] (0, 0) _ rfl (HM.bx 1 rfl) Try.underlying75 rfl (by kernel_rfl)) rfl ?_
    exact ⟨_, _, ER, (MD HM).pick [2, 3]⟩
   ·subst c13
    replace H := BN H; obtain ⟨⟨t1237, t1238, t1239⟩, A16, H⟩ := H
    replace H := BN H; obtain ⟨t1243, A22, H⟩ := H
    obtain ⟨_,_,_,_,_,_⟩ := bk3 (HM.bx 0 rfl)
    go_upto_if 31 with (first | ((with_reducible refine gC 112 rfl ?_); refine pC (some 25) rfl #[.agg #[.int .i64 a0_0, .int .i64 a0_1, .slice A0_2 l0_2.length c0_2]] rfl Try.func112 (spec_l11Copy.calls a0_0 a0_1 _ _ l0_2 t1237 t1238 t1239 _ (HM.came HR0_2.out) HC0_2.out A16.out) ?_; rintro e w17 ⟨v1240, rfl, hR⟩; refine ⟨_, rfl, ?_⟩; replace HM := HM.call hR; clear hR) | ((with_reducible refine gN 9 rfl ?_); refine pB 9 75 [.int .i64 0, .int .i64 0, .slice none 0 0] HM rfl ?_; clear HM; intro gb1242 w18 HM; obtain ⟨Xo19, ko19, rfl⟩ := HM.rdR 2 rfl) | ((with_reducible refine gS 9 rfl ?_); refine pS 3 9 0 [.int .i64 t1237, .int .i64 t1238, .slice Xo19 t1239.length ko19] HM rfl rfl ?_; clear HM; intro w20 HM; obtain ⟨_,_,_,_,_,_⟩ := bk3 (HM.bx 0 rfl)) | ((with_reducible refine gC 104 rfl ?_); refine pC (some 29) rfl #[.slice A0_2 l0_2.length c0_2, .string a1] rfl Try.func104 (spec_l10At.calls kj5 _ _ l0_2 a1 t1243 _ (HM.came HR0_2.out) HC0_2.out A22.out) ?_; rintro e w23 ⟨rfl, hR⟩; refine ⟨_, rfl, ?_⟩; replace HM := HM.call hR; clear hR))
    replace HM := nzM HM
    replace H := IT H; rcases H with ⟨c24, H⟩ | ⟨c24, H⟩
    ·have c24b0 : decide (0 ≤ t1243) = true := decide_eq_true c24
     clear c24
     first|rw [c24b0]|(simp only [i64_w, i32_w]; rw [c24b0])|skip
     replace H := GD H; obtain ⟨c26, H⟩ := H
     have c26b0 : decide (0 ≤ t1243) = true := decide_eq_true c26
     clear c26
     replace H := GD H; obtain ⟨c27, H⟩ := H
     have c27b0 : decide (t1243 < (t1239.length : Int)) = true := decide_eq_true c27
     clear c27
     replace H := BN H; obtain ⟨⟨t1245, t1246, t1247⟩, A31, H⟩ := H
     simp only [Option.some.injEq, Prod.mk.injEq] at H
     obtain ⟨rfl, rfl, rfl, rfl, rfl⟩ := H
     obtain ⟨_,_,_,_,_,_⟩ := bk3 (HM.bx 3 rfl)
     have p28 : 0 ≤ (t1243 : Int) := of_decide_eq_true AS
     have q28 : (t1243 : Int) < ((t1239.length : Int) : Int) := of_decide_eq_true AS
     obtain ⟨go28, ef28⟩ := HM.form 2 rfl (by have h_ := (HM.CR 2 rfl).1; omega)
     subst ef28
     obtain ⟨hx28_0, hx28_1, hx28_2, hf28_0, hf28_1, hf28_2⟩ := HM.el3 2 rfl z67 (t1243 : Int) p28 (by have h_ := (HM.CR 2 rfl).1; omega) (.string ((rd_T67 t1239 t1243).f0)) (.string ((rd_T67 t1239 t1243).f1)) (.int .i64 ((rd_T67 t1239 t1243).f2)) (fun _ _ h => k67_openM h)
     replace p28 := eq_true p28
     replace q28 := eq_true q28
     go_wp2_with (first | ((with_reducible refine gS 37 rfl ?_); refine pPR 2 37 (t1243 : Int) 1 [.string a2] k67 67 t1239 (⟨(rd_T67 t1239 t1243).f0, a2, (rd_T67 t1239 t1243).f2⟩ : S67) z67 [.string ((rd_T67 t1239 t1243).f0), .string ((rd_T67 t1239 t1243).f1), .int .i64 ((rd_T67 t1239 t1243).f2)] HM rfl rfl (of_decide_eq_true AS) (by have h_ : (t1243 : Int) < ((t1239.length : Int) : Int) := of_decide_eq_true AS; have e_ := (HM.CR 2 rfl).1; omega) (fun _ _ h => k67_openM h) (k67_mkM _ _ _ (⟨(rd_T67 t1239 t1243).f0, a2, (rd_T67 t1239 t1243).f2⟩ : S67)) ?_; clear HM; intro w29 HM; obtain ⟨_,_,_,_,_,_⟩ := bk3 (HM.bx 3 rfl)) | ((with_reducible refine gC 113 rfl ?_); refine pC (some 40) rfl #[.agg #[.int .i64 t1237, .int .i64 t1238, .slice (some ⟨go28, 0, none⟩) t1239.length ko19], .int .i64 t1243] rfl Try.func113 (spec_l11Touch.calls kj5 t1237 t1238 (.slice (some ⟨go28, 0, none⟩) t1239.length ko19) (t1239.set (t1243 : Int).toNat (⟨(rd_T67 t1239 t1243).f0, a2, (rd_T67 t1239 t1243).f2⟩ : S67)) t1243 t1245 t1246 t1247 _ _ _ (HM.focus [0, 1, 3] [2]) A31.out) ?_; rintro e w32 ⟨v1248, rfl, hR⟩; refine ⟨_, rfl, ?_⟩; replace HM := nzM hR.unfocus; clear hR; obtain ⟨Xo33, ko33, rfl⟩ := HM.rdR 3 rfl) | ((with_reducible refine gS 6 rfl ?_); refine pS 1 6 0 [.int .i64 t1245, .int .i64 t1246, .slice Xo33 t1247.length ko33] HM rfl rfl ?_; clear HM; intro w34 HM; replace HM := HM.nl Kd.string 9))
     refine bodyPost_ret (results_ctt rfl _ _ gb1234 75 #[.int .i64 t1245, .int .i64 t1246, .slice Xo33 t1247.length ko33] (0, 0) _ rfl (HM.bx 1 rfl) Try.underlying75 rfl (by kernel_rfl)) rfl ?_
     exact ⟨_, _, ER, (MD HM).pick [3, 4]⟩
    ·have c24b0 : decide (0 ≤ t1243) = false := decide_eq_false c24
     clear c24
     first|rw [c24b0]|(simp only [i64_w, i32_w]; rw [c24b0])|skip
     replace H := BLt H; obtain ⟨y1250, Ny1250, H⟩ := H
     replace Ny1250 := Aside0.mk Ny1250
     go_upto_if 47 with (first | ((with_reducible refine gN 41 rfl ?_); refine pL 41 Kd.string 9 ([] : List ByteArray) [] (Reps.none _ _) HM rfl ?_; clear HM; intro v1251 w35 HM; replace HM := HM.nm 4 rfl Ny1250.out; obtain ⟨_,_,_,_,_,_⟩ := bk3 (HM.bx 3 rfl)))
     replace H := IT H; rcases H with ⟨c37, H⟩ | ⟨c37, H⟩
     ·have c37b0 : ((t1239.length : Int) == t1238) = true := beq_iff_eq.mpr c37
      have c37b1 : ((t1239.length : Int) != t1238) = false := bne_eq_false_iff_eq.mpr c37
      clear c37
      first|rw [c37b0]|(simp only [i64_w, i32_w]; rw [c37b0])|skip
      have H' := Aside0.mk H
      clear H
      go_wp2
      go_loopg [] kj5 (fun kq w' => ∃ (x1243002_2 : List (S67)) (u1243002 : Value), Aside0 (spec_RowPut.l0 kq a1 a2 y1250 t1237 t1238 x1243002_2 = some (r1, r2, r3, r4, r5)) ∧ Aside0 (kq ≤ kj5) ∧ Mem w [] w' [rowR Kd.string 9 v1251 y1250, rowR k67 67 u1243002 x1243002_2, box 75 gb1233 [.int .i64 a0_0, .int .i64 a0_1, .slice A0_2 l0_2.length c0_2], box 75 gb1234 [.int .i64 0, .int .i64 0, .slice none 0 0], box 75 gb1242 [.int .i64 t1237, .int .i64 t1238, u1243002]])
      case atStart => exact ⟨(t1239), (.slice Xo19 t1239.length ko19), H', ⟨Nat.le_refl _⟩, (MD HM).pick [4, 2, 0, 1, 3]⟩
      case round =>
       clear H' HM
       obtain ⟨x1243002_2, u1243002, HA, HK2, HM⟩ := hrel
       cases gk with
       | zero => exact absurd HA.out (by simp [spec_RowPut.l0])
       | succ k2 =>
        have H := HA.out
        clear HA
        simp only [spec_RowPut.l0] at H
        replace H := GD H; obtain ⟨c39, H⟩ := H
        replace c39 : 0 < (x1243002_2.length : Int) := c39
        have c39b0 : decide (0 < (x1243002_2.length : Int)) = true := decide_eq_true c39
        have c39b1 : decide (0 < x1243002_2.length) = true := decide_eq_true (by omega)
        have c39b9 : decide (0 < x1243002_2.length) = true := decide_eq_true (by omega)
        clear c39
        obtain ⟨_,_,_,_,_,_⟩ := bk3 (HM.bx 4 rfl)
        obtain ⟨Xo40, ko40, rfl⟩ := HM.rdR 1 rfl
        have p1253 : 0 ≤ (0 : Int) := (by omega)
        have q1253 : (0 : Int) < (x1243002_2.length : Int) := of_decide_eq_true AS
        obtain ⟨ad1253, e1253, hx1253_0, hx1253_1, hx1253_2⟩ := at_T67 (HM.CR 1 rfl).2.2 0 p1253 q1253
        cases e1253
        have qi1253 : (0 < x1243002_2.length) = True := eq_true (by omega)
        (try rw [show ((0 : Int)).toNat = 0 from rfl] at hx1253_0)
        (try rw [show 0 * 3 = 0 from rfl] at hx1253_0)
        (try rw [Addr.add_zero'] at hx1253_0)
        (try rw [show ((0 : Int)).toNat = 0 from rfl] at hx1253_1)
        (try rw [show 0 * 3 = 0 from rfl] at hx1253_1)
        (try rw [Addr.add_zero'] at hx1253_1)
        (try rw [show ((0 : Int)).toNat = 0 from rfl] at hx1253_2)
        (try rw [show 0 * 3 = 0 from rfl] at hx1253_2)
        (try rw [Addr.add_zero'] at hx1253_2)
        replace p1253 := eq_true p1253
        replace q1253 := eq_true q1253
        go_upto_if 53 with (fail)
        replace H := IT H; rcases H with ⟨c41, H⟩ | ⟨c41, H⟩
        ·have c41b0 : (((rd_T67 x1243002_2 0).f2) == 1) = true := beq_iff_eq.mpr c41
         have c41b1 : (((rd_T67 x1243002_2 0).f2) != 1) = false := bne_eq_false_iff_eq.mpr c41
         clear c41
         first|rw [c41b0]|(simp only [i64_w, i32_w]; rw [c41b0])|skip
         have p1254 : 0 ≤ (0 : Int) := (by omega)
         have q1254 : (0 : Int) < (x1243002_2.length : Int) := of_decide_eq_true AS
         obtain ⟨ad1254, e1254, hx1254_0, hx1254_1, hx1254_2⟩ := at_T67 (HM.CR 1 rfl).2.2 0 p1254 q1254
         obtain rfl := Option.some.inj e1254
         have qi1254 : (0 < x1243002_2.length) = True := eq_true (by omega)
         (try rw [show ((0 : Int)).toNat = 0 from rfl] at hx1254_0)
         (try rw [show 0 * 3 = 0 from rfl] at hx1254_0)
         (try rw [Addr.add_zero'] at hx1254_0)
         (try rw [show ((0 : Int)).toNat = 0 from rfl] at hx1254_1)
         (try rw [show 0 * 3 = 0 from rfl] at hx1254_1)
         (try rw [Addr.add_zero'] at hx1254_1)
         (try rw [show ((0 : Int)).toNat = 0 from rfl] at hx1254_2)
         (try rw [show 0 * 3 = 0 from rfl] at hx1254_2)
         (try rw [Addr.add_zero'] at hx1254_2)
         replace p1254 := eq_true p1254
         replace q1254 := eq_true q1254
         try go_wp2_with (first | ((with_reducible refine gN 12 rfl ?_); refine pB 12 67 [.string (⟨#[]⟩ : ByteArray), .string (⟨#[]⟩ : ByteArray), .int .i64 0] HM rfl ?_; clear HM; intro gb1255 w42 HM) | ((with_reducible refine gS 12 rfl ?_); refine pS 5 12 0 [.string ((rd_T67 x1243002_2 0).f0), .string ((rd_T67 x1243002_2 0).f1), .int .i64 ((rd_T67 x1243002_2 0).f2)] HM rfl rfl ?_; clear HM; intro w43 HM) | ((with_reducible refine gS 58 rfl ?_); refine pS 5 58 2 [.int .i64 0] HM rfl rfl ?_; clear HM; intro w44 HM))
         replace H := BLt H; obtain ⟨y1256, Ny1256, H⟩ := H
         replace Ny1256 := Aside0.mk Ny1256
         replace H := GD H; obtain ⟨c45, H⟩ := H
         have c45b0 := eq_true c45
         have c45b1 : decide (1 ≤ (x1243002_2.length : Int)) = true := decide_eq_true c45
         clear c45
         replace H := BLt H; obtain ⟨_, rfl, H⟩ := H
         replace H := GD H; obtain ⟨c46, H⟩ := H
         have LMc46 := Aside0.mk (show y1256.length + (x1243002_2.drop 1).length < 3518437208883 from c46)
         clear c46
         replace H := BLt H; obtain ⟨y1263, Ny1263, H⟩ := H
         replace Ny1263 := Aside0.mk Ny1263
         replace H := GD H; obtain ⟨c47, H⟩ := H
         have LMc47 := Aside0.mk (show y1263.length < 3518437208883 from c47)
         clear c47
         refine RGN 10 [0, 1, 2, 3, 4, 5, 6, 7, 8, 9] (fun a0 b a w' => ∃ (v1257 : Value) (v1260 : Value) (v1264 : Value) (v54 : Value) (v1267 : Value), a = putSel a0 b [(0, 59, v1257), (1, 60, .pointer (some ⟨gb1242, 2, none⟩)), (2, 61, .slice (some ad1253) x1243002_2.length ko40), (3, 62, v1260), (4, 63, v1264), (5, 64, .agg #[.string ((rd_T67 x1243002_2 0).f0), .string ((rd_T67 x1243002_2 0).f1), .int .i64 0]), (6, 65, v54), (7, 66, v1267), (8, 67, .pointer (some ⟨gb1242, 2, none⟩))] ∧ Mem w [] w' [rowR Kd.string 9 v1251 y1250, sel (b 3) (row k67 67 v1260 (x1243002_2.drop 1)) (rowR k67 67 (.slice (some ad1253) x1243002_2.length ko40) x1243002_2), box 75 gb1233 [.int .i64 a0_0, .int .i64 a0_1, .slice A0_2 l0_2.length c0_2], box 75 gb1234 [.int .i64 0, .int .i64 0, .slice none 0 0], sel (b 9) (box 75 gb1242 [.int .i64 t1237, .int .i64 t1238, v1267]) (box 75 gb1242 [.int .i64 t1237, .int .i64 t1238, .slice (some ad1253) x1243002_2.length ko40]), box 67 gb1255 [.string ((rd_T67 x1243002_2 0).f0), .string ((rd_T67 x1243002_2 0).f1), .int .i64 0], sel (b 7) (rowR k67 67 v1267 (y1263 ++ [(⟨(rd_T67 x1243002_2 0).f0, (rd_T67 x1243002_2 0).f1, 0⟩ : S67)])) (sel (b 4) (rowR k67 67 v1264 y1263) (sel (b 0) (rowR k67 67 v1257 y1256) (emp))), sel (b 6) (rowR k67 67 v54 [(⟨(rd_T67 x1243002_2 0).f0, (rd_T67 x1243002_2 0).f1, 0⟩ : S67)]) (emp)]) spec_RowPut.tab13 spec_RowPut.bits13 ?_ ?_ ?_
         ·exact ⟨.bool false, .bool false, .bool false, .bool false, .bool false, PS0' rfl _, (HM.drew.ems 2).pick [0, 1, 2, 3, 4, 5, 6, 7]⟩
         ·clear HM
          refine SZ ?_ ?_
          ·rintro b a w ⟨v1257, v1260, v1264, v54, v1267, ha, HM⟩ hb hon hoff K hK
           replace ha := Aside0.mk ha
           refine ST (eL 59 k67 67 ([] : List (S67)) [] (Reps.none _ _) HM rfl ?_)
           clear HM
           intro v1257 w59 HM
           replace HM := HM.nm 8 rfl Ny1256.out
           exact hK.out _ _ ⟨v1257, v1260, v1264, v54, v1267, PUT ha 0 hb, ((HM.iF 8 rfl (hoff 4 rfl)).iF 8 rfl (hoff 7 rfl)).pick [0, 1, 2, 3, 4, 5, 8, 7]⟩
          refine SZ ?_ ?_
          ·rintro b a w ⟨v1257, v1260, v1264, v54, v1267, ha, HM⟩ hb hon hoff K hK
           replace ha := Aside0.mk ha
           have e9 := PG ha 9
           exact VL (.pointer (some ⟨gb1242, 2, none⟩)) (hK.out _ _ ⟨v1257, v1260, v1264, v54, v1267, PUT ha 1 hb, HM⟩)
          refine SZ ?_ ?_
          ·rintro b a w ⟨v1257, v1260, v1264, v54, v1267, ha, HM⟩ hb hon hoff K hK
           replace ha := Aside0.mk ha
           have HZ := HM
           replace HM := HM.sF 4 rfl (hoff 9 rfl)
           obtain ⟨_,_,_,_,_,_⟩ := bk3 (HM.bx 4 rfl)
           have e60 := PE ha 1 hon
           exact VL (.slice (some ad1253) x1243002_2.length ko40) (hK.out _ _ ⟨v1257, v1260, v1264, v54, v1267, PUT ha 2 hb, HZ⟩)
          refine SZ ?_ ?_
          ·rintro b a w ⟨v1257, v1260, v1264, v54, v1267, ha, HM⟩ hb hon hoff K hK
           replace ha := Aside0.mk ha
           replace HM := HM.sF 1 rfl hb
           have e61 := PE ha 2 hon
           refine ST (eD 1 68 67 k67 _ _ 1 x1243002_2 (some ad1253) ko40 HM rfl Try.underlying68 info67 rfl (fun _ _ h => Kd.Q_of_R h) (by omega) (by have h_ : (1 : Int) ≤ ((x1243002_2.length : Int) : Int) := of_decide_eq_true AS; first | exact h_ | (have e_ := (HM.CR 1 rfl).1; omega)) ?_ (hx := (eval_of e61)) (hl := rfl))
           clear HM
           intro v1260 HM
           exact hK.out _ _ ⟨v1257, v1260, v1264, v54, v1267, PUT ha 3 hb, (HM).pick [0, 1, 2, 3, 4, 5, 6, 7]⟩
          refine SZ ?_ ?_
          ·rintro b a w ⟨v1257, v1260, v1264, v54, v1267, ha, HM⟩ hb hon hoff K hK
           replace ha := Aside0.mk ha
           replace HM := HM.sT 1 rfl (hon 3 rfl)
           replace HM := ((HM.sF 6 rfl (hoff 7 rfl)).sF 6 rfl hb).sT 6 rfl (hon 0 rfl)
           obtain ⟨Xo61, ko61, rfl⟩ := HM.rd 1 rfl
           have e59 := PE ha 0 hon
           have e62 := PE ha 3 hon
           refine ST (eA 6 (.tmp 59) (.tmp 62) 68 67 k67 v1257 y1256 (x1243002_2.drop 1) Xo61 ((x1243002_2.drop 1).length) ko61 HM rfl Try.underlying68 info67 rfl (HM.C 1 rfl).2.2 (by have h_ := LMc46.out; omega) ?_ (ops := #[]) (hw := by rfl) (hs := (eval_of e59)) (hx := (eval_of e62)))
           clear HM
           intro v1264 w62 HM
           replace HM := HM.nm 6 rfl Ny1263.out
           exact hK.out _ _ ⟨v1257, .slice Xo61 (x1243002_2.drop 1).length ko61, v1264, v54, v1267, PUT ha 4 hb, ((HM.iT 1 rfl (hon 3 rfl)).iF 6 rfl (hoff 7 rfl)).pick [0, 1, 2, 3, 4, 5, 6, 7]⟩
          refine SZ ?_ ?_
          ·rintro b a w ⟨v1257, v1260, v1264, v54, v1267, ha, HM⟩ hb hon hoff K hK
           replace ha := Aside0.mk ha
           obtain ⟨_,_,_,_,_,_⟩ := bk3 (HM.bx 5 rfl)
           have e12 := PG ha 12
           exact VL (.agg #[.string ((rd_T67 x1243002_2 0).f0), .string ((rd_T67 x1243002_2 0).f1), .int .i64 0]) (hK.out _ _ ⟨v1257, v1260, v1264, v54, v1267, PUT ha 5 hb, HM⟩)
          refine SZ ?_ ?_
          ·rintro b a w ⟨v1257, v1260, v1264, v54, v1267, ha, HM⟩ hb hon hoff K hK
           replace ha := Aside0.mk ha
           have e64 := PE ha 5 hon
           refine ST (eL 65 k67 67 [(⟨(rd_T67 x1243002_2 0).f0, (rd_T67 x1243002_2 0).f1, 0⟩ : S67)] [.string ((rd_T67 x1243002_2 0).f0), .string ((rd_T67 x1243002_2 0).f1), .int .i64 0] (Reps.c3 (show Kd.M k67 _ _ _ (⟨(rd_T67 x1243002_2 0).f0, (rd_T67 x1243002_2 0).f1, 0⟩ : S67) [.string ((rd_T67 x1243002_2 0).f0), .string ((rd_T67 x1243002_2 0).f1), .int .i64 0] from (k67_mkM _ _ _ (⟨(rd_T67 x1243002_2 0).f0, (rd_T67 x1243002_2 0).f1, 0⟩ : S67))) (Reps.none _ _)) HM rfl ?_)
           clear HM
           intro v54 w64 HM
           exact hK.out _ _ ⟨v1257, v1260, v1264, v54, v1267, PUT ha 6 hb, (HM).pick [0, 1, 2, 3, 4, 5, 6, 8]⟩
          refine SZ ?_ ?_
          ·rintro b a w ⟨v1257, v1260, v1264, v54, v1267, ha, HM⟩ hb hon hoff K hK
           replace ha := Aside0.mk ha
           replace HM := (HM.sF 6 rfl hb).sT 6 rfl (hon 4 rfl)
           replace HM := HM.sT 7 rfl (hon 6 rfl)
           obtain ⟨Xo65, ko65, rfl⟩ := HM.rdR 7 rfl
           have e63 := PE ha 4 hon
           have e65 := PE ha 6 hon
           refine ST (eA 6 (.tmp 63) (.tmp 65) 68 67 k67 v1264 y1263 [(⟨(rd_T67 x1243002_2 0).f0, (rd_T67 x1243002_2 0).f1, 0⟩ : S67)] Xo65 ([(⟨(rd_T67 x1243002_2 0).f0, (rd_T67 x1243002_2 0).f1, 0⟩ : S67)].length) ko65 HM rfl Try.underlying68 info67 rfl (HM.CR 7 rfl).2.2 (by have h_ := LMc47.out; simp only [List.length_singleton]; omega) ?_ (ops := #[]) (hw := by rfl) (hs := (eval_of e63)) (hx := (eval_of e65)))
           clear HM
           intro v1267 w66 HM
           exact hK.out _ _ ⟨v1257, v1260, v1264, .slice Xo65 [(⟨(rd_T67 x1243002_2 0).f0, (rd_T67 x1243002_2 0).f1, 0⟩ : S67)].length ko65, v1267, PUT ha 7 hb, (((HM.sF 4 rfl (hoff 9 rfl)).iF 4 rfl (hoff 9 rfl)).iT 7 rfl (hon 6 rfl)).pick [0, 1, 2, 3, 4, 5, 6, 7]⟩
          refine SZ ?_ ?_
          ·rintro b a w ⟨v1257, v1260, v1264, v54, v1267, ha, HM⟩ hb hon hoff K hK
           replace ha := Aside0.mk ha
           have e9 := PG ha 9
           exact VL (.pointer (some ⟨gb1242, 2, none⟩)) (hK.out _ _ ⟨v1257, v1260, v1264, v54, v1267, PUT ha 8 hb, HM⟩)
          refine SZ ?_ ?_
          ·rintro b a w ⟨v1257, v1260, v1264, v54, v1267, ha, HM⟩ hb hon hoff K hK
           replace ha := Aside0.mk ha
           replace HM := HM.sF 4 rfl hb
           replace HM := HM.sT 6 rfl (hon 7 rfl)
           obtain ⟨Xo67, ko67, rfl⟩ := HM.rdR 6 rfl
           have e67 := PE ha 8 hon
           have e66 := PE ha 7 hon
           refine ST (eS 4 67 2 [.slice Xo67 (y1263 ++ [(⟨(rd_T67 x1243002_2 0).f0, (rd_T67 x1243002_2 0).f1, 0⟩ : S67)]).length ko67] HM rfl rfl ?_ (hp := (eval_of e67)) (hx := (by rw [eval_of e66]; rfl)))
           clear HM
           intro w68 HM
           exact hK.out _ _ ⟨v1257, v1260, v1264, v54, .slice Xo67 (y1263 ++ [(⟨(rd_T67 x1243002_2 0).f0, (rd_T67 x1243002_2 0).f1, 0⟩ : S67)]).length ko67, PUS ha, (HM.iT 6 rfl (hon 7 rfl)).pick [0, 1, 2, 3, 4, 5, 6, 7]⟩
          exact steps_nil
         rintro _ w69 ⟨v1257, v1260, v1264, v54, v1267, rfl, HM⟩
         replace HM := HM.sT 1 rfl rfl
         replace HM := HM.sT 4 rfl rfl
         replace HM := HM.sT 6 rfl rfl
         replace HM := HM.sT 7 rfl rfl
         simp only [putSel, if_true, Act.put, List.setIfInBounds_toArray, List.set_cons_zero, List.set_cons_succ, gt_iff_lt, ge_iff_le]
         have H' := Aside0.mk H
         clear H
         go_wp2
         go_roundg k2
         case measure => have := HJ5.out; have := HK2.out; omega
         case rel => exact ⟨((y1263 ++ [(⟨(rd_T67 x1243002_2 0).f0, (rd_T67 x1243002_2 0).f1, 0⟩ : S67)])), (v1267), H', ⟨by have := HJ5.out; have := HK2.out; omega⟩, (MD HM).pick [0, 6, 2, 3, 4]⟩
        ·have c41b0 : (((rd_T67 x1243002_2 0).f2) == 1) = false := beq_eq_false_iff_ne.mpr c41
         have c41b1 : (((rd_T67 x1243002_2 0).f2) != 1) = true := bne_iff_ne.mpr c41
         first|rw [c41b0]|(simp only [i64_w, i32_w]; rw [c41b0])|skip
         replace H := GD H; obtain ⟨c70, H⟩ := H
         have LMc70 := Aside0.mk (show y1250.length < 8796093022208 from c70)
         clear c70
         replace H := BLt H; obtain ⟨y1273, Ny1273, H⟩ := H
         replace Ny1273 := Aside0.mk Ny1273
         replace H := GD H; obtain ⟨c76, H⟩ := H
         have c76b0 := eq_true c76
         have c76b1 : decide (1 ≤ (x1243002_2.length : Int)) = true := decide_eq_true c76
         clear c76
         replace H := BLt H; obtain ⟨_, rfl, H⟩ := H
         replace H := GD H; obtain ⟨c78, H⟩ := H
         have LMc78 := Aside0.mk (show y1273.length + (x1243002_2.drop 1).length < 3518437208883 from c78)
         clear c78
         replace H := BLt H; obtain ⟨y1280, Ny1280, H⟩ := H
         replace Ny1280 := Aside0.mk Ny1280
         replace H := GD H; obtain ⟨c83, H⟩ := H
         have LMc83 := Aside0.mk (show y1280.length < 3518437208883 from c83)
         clear c83
         simp only [Option.some.injEq, Prod.mk.injEq] at H
         obtain ⟨rfl, rfl, rfl, rfl, rfl⟩ := H
         have p1269 : 0 ≤ (0 : Int) := (by omega)
         have q1269 : (0 : Int) < (x1243002_2.length : Int) := of_decide_eq_true AS
         obtain ⟨ad1269, e1269, hx1269_0, hx1269_1, hx1269_2⟩ := at_T67 (HM.CR 1 rfl).2.2 0 p1269 q1269
         obtain rfl := Option.some.inj e1269
         have qi1269 : (0 < x1243002_2.length) = True := eq_true (by omega)
         (try rw [show ((0 : Int)).toNat = 0 from rfl] at hx1269_0)
         (try rw [show 0 * 3 = 0 from rfl] at hx1269_0)
         (try rw [Addr.add_zero'] at hx1269_0)
         (try rw [show ((0 : Int)).toNat = 0 from rfl] at hx1269_1)
         (try rw [show 0 * 3 = 0 from rfl] at hx1269_1)
         (try rw [Addr.add_zero'] at hx1269_1)
         (try rw [show ((0 : Int)).toNat = 0 from rfl] at hx1269_2)
         (try rw [show 0 * 3 = 0 from rfl] at hx1269_2)
         (try rw [Addr.add_zero'] at hx1269_2)
         replace p1269 := eq_true p1269
         replace q1269 := eq_true q1269
         go_wp2_with (first | ((with_reducible refine gN 74 rfl ?_); refine pL 74 Kd.string 9 [(rd_T67 x1243002_2 0).f0] [.string ((rd_T67 x1243002_2 0).f0)] (Reps.one (show Kd.M Kd.string _ _ _ ((rd_T67 x1243002_2 0).f0) [.string ((rd_T67 x1243002_2 0).f0)] from rfl) (Reps.none _ _)) HM rfl ?_; clear HM; intro v72 w71 HM; obtain ⟨Xv72, kv72, rfl⟩ := HM.rdR 5 rfl) | ((with_reducible refine gate_builtin (b := .append) (xs := #[.tmp 68, .tmp 74]) rfl ?_); refine pA 0 (.tmp 68) (.tmp 74) 23 9 Kd.string v1251 y1250 [(rd_T67 x1243002_2 0).f0] Xv72 ([(rd_T67 x1243002_2 0).f0].length) kv72 HM rfl Try.underlying23 info9 rfl (HM.CR 5 rfl).2.2 (by have h_ := LMc70.out; simp only [List.length_singleton]; omega) ?_; clear HM; intro v1271 w73 HM) | ((with_reducible refine gN 76 rfl ?_); refine pL 76 k67 67 ([] : List (S67)) [] (Reps.none _ _) HM rfl ?_; clear HM; intro v1274 w74 HM; replace HM := HM.nm 6 rfl Ny1273.out; obtain ⟨_,_,_,_,_,_⟩ := bk3 (HM.bx 4 rfl)) | ((with_reducible refine gate_sl (t := 68) rfl ?_); refine pRd 68 67 k67 _ _ 1 x1243002_2 (some ad1253) ko40 rfl Try.underlying68 info67 (HM.CR 1 rfl).2.2 (HM.CR 1 rfl).2.1 (by omega) (of_decide_eq_true AS) ?_; intro Yx77 bx77 hYx77 hbx77; have HYx77 := Aside0.mk hYx77; have HBx77 := Aside0.mk hbx77; clear hYx77 hbx77) | ((with_reducible refine gate_builtin (b := .append) (xs := #[.tmp 76, .tmp 79]) rfl ?_); refine pA 6 (.tmp 76) (.tmp 79) 68 67 k67 v1274 y1273 (x1243002_2.drop 1) Yx77 ((x1243002_2.drop 1).length) bx77 HM rfl Try.underlying68 info67 rfl HYx77.out (by have h_ := LMc78.out; omega) ?_; clear HM; intro v1281 w79 HM; replace HM := HM.nm 6 rfl Ny1280.out; obtain ⟨Xo80, ko80, rfl⟩ := HM.rdR 6 rfl) | ((with_reducible refine gS 81 rfl ?_); refine pS 4 81 2 [.slice Xo80 y1280.length ko80] HM rfl rfl ?_; clear HM; intro w81 HM; obtain ⟨_,_,_,_,_,_⟩ := bk3 (HM.bx 4 rfl)) | ((with_reducible refine gN 87 rfl ?_); refine pL 87 k67 67 [(⟨a1, a2, 0⟩ : S67)] [.string a1, .string a2, .int .i64 0] (Reps.c3 (show Kd.M k67 _ _ _ (⟨a1, a2, 0⟩ : S67) [.string a1, .string a2, .int .i64 0] from (k67_mkM _ _ _ (⟨a1, a2, 0⟩ : S67))) (Reps.none _ _)) HM rfl ?_; clear HM; intro v85 w84 HM; obtain ⟨Xv85, kv85, rfl⟩ := HM.rdR 7 rfl) | ((with_reducible refine gate_builtin (b := .append) (xs := #[.tmp 83, .tmp 87]) rfl ?_); refine pA 6 (.tmp 83) (.tmp 87) 68 67 k67 (.slice Xo80 y1280.length ko80) y1280 [(⟨a1, a2, 0⟩ : S67)] Xv85 ([(⟨a1, a2, 0⟩ : S67)].length) kv85 HM rfl Try.underlying68 info67 rfl (HM.CR 7 rfl).2.2 (by have h_ := LMc83.out; simp only [List.length_singleton]; omega) ?_; clear HM; intro v1284 w86 HM; obtain ⟨Xo87, ko87, rfl⟩ := HM.rdR 6 rfl) | ((with_reducible refine gS 89 rfl ?_); refine pS 4 89 2 [.slice Xo87 (y1280 ++ [(⟨a1, a2, 0⟩ : S67)]).length ko87] HM rfl rfl ?_; clear HM; intro w88 HM; obtain ⟨_,_,_,_,_,_⟩ := bk3 (HM.bx 4 rfl)) | ((with_reducible refine gS 6 rfl ?_); refine pS 3 6 0 [.int .i64 t1237, .int .i64 t1238, .slice Xo87 (y1280 ++ [(⟨a1, a2, 0⟩ : S67)]).length ko87] HM rfl rfl ?_; clear HM; intro w90 HM))
         refine bodyPost_ret (results_ctt rfl _ _ gb1234 75 #[.int .i64 t1237, .int .i64 t1238, .slice Xo87 (y1280 ++ [(⟨a1, a2, 0⟩ : S67)]).length ko87] (0, 0) _ rfl (HM.bx 3 rfl) Try.underlying75 rfl (by kernel_rfl)) rfl ?_
         exact ⟨_, _, ER, (MD HM).pick [6, 0]⟩
     ·have c37b0 : ((t1239.length : Int) == t1238) = false := beq_eq_false_iff_ne.mpr c37
      have c37b1 : ((t1239.length : Int) != t1238) = true := bne_iff_ne.mpr c37
      first|rw [c37b0]|(simp only [i64_w, i32_w]; rw [c37b0])|skip
      replace H := GD H; obtain ⟨c91, H⟩ := H
      have LMc91 := Aside0.mk (show t1239.length < 3518437208883 from c91)
      clear c91
      simp only [Option.some.injEq, Prod.mk.injEq] at H
      obtain ⟨rfl, rfl, rfl, rfl, rfl⟩ := H
      go_wp2_with (first | ((with_reducible refine gN 87 rfl ?_); refine pL 87 k67 67 [(⟨a1, a2, 0⟩ : S67)] [.string a1, .string a2, .int .i64 0] (Reps.c3 (show Kd.M k67 _ _ _ (⟨a1, a2, 0⟩ : S67) [.string a1, .string a2, .int .i64 0] from (k67_mkM _ _ _ (⟨a1, a2, 0⟩ : S67))) (Reps.none _ _)) HM rfl ?_; clear HM; intro v93 w92 HM; obtain ⟨Xv93, kv93, rfl⟩ := HM.rdR 5 rfl) | ((with_reducible refine gate_builtin (b := .append) (xs := #[.tmp 83, .tmp 87]) rfl ?_); refine pA 2 (.tmp 83) (.tmp 87) 68 67 k67 (.slice Xo19 t1239.length ko19) t1239 [(⟨a1, a2, 0⟩ : S67)] Xv93 ([(⟨a1, a2, 0⟩ : S67)].length) kv93 HM rfl Try.underlying68 info67 rfl (HM.CR 5 rfl).2.2 (by have h_ := LMc91.out; simp only [List.length_singleton]; omega) ?_; clear HM; intro v1287 w94 HM; obtain ⟨Xo95, ko95, rfl⟩ := HM.rdR 2 rfl) | ((with_reducible refine gS 89 rfl ?_); refine pS 3 89 2 [.slice Xo95 (t1239 ++ [(⟨a1, a2, 0⟩ : S67)]).length ko95] HM rfl rfl ?_; clear HM; intro w96 HM; obtain ⟨_,_,_,_,_,_⟩ := bk3 (HM.bx 3 rfl)) | ((with_reducible refine gS 6 rfl ?_); refine pS 1 6 0 [.int .i64 t1237, .int .i64 t1238, .slice Xo95 (t1239 ++ [(⟨a1, a2, 0⟩ : S67)]).length ko95] HM rfl rfl ?_; clear HM; intro w98 HM))
      refine bodyPost_ret (results_ctt rfl _ _ gb1234 75 #[.int .i64 t1237, .int .i64 t1238, .slice Xo95 (t1239 ++ [(⟨a1, a2, 0⟩ : S67)]).length ko95] (0, 0) _ rfl (HM.bx 1 rfl) Try.underlying75 rfl (by kernel_rfl)) rfl ?_
      exact ⟨_, _, ER, (MD HM).pick [2, 4]⟩
def spec_l12Ask.f (k : Nat) (a0_0 : Int) (a0_1 : Int) (a0_2 : Int) (a1_0 : Int) (a1_1 : Int) (l1_2 : List (S67)) (l1_3 : List (S67)) (l1_4 : List Int) (a1_5 : Int) (a1_6 : Int) (l1_7 : List (S67)) (a2 : ByteArray) : Option (Int × Int × (List (S67)) × (List (S67)) × List Int × Int × Int × (List (S67)) × Bool × Int) := if a0_0 = 4 then ((spec_Get.f k a1_0 a1_1 l1_2 l1_3 l1_4 a2).bind fun bt1295 => (if bt1295.2.2.2.2.2.2 = true then (some (bt1295.1, bt1295.2.1, bt1295.2.2.1, bt1295.2.2.2.1, bt1295.2.2.2.2.1, 0, 0, ([] : List (S67)), bt1295.2.2.2.2.2.2, ((([] : List ByteArray)).length : Int))) else ((spec_Put.f k a1_0 a1_1 l1_2 l1_3 l1_4 a2 (⟨#[]⟩ : ByteArray)).bind fun bt1312 => (some (bt1312.1, bt1312.2.1, bt1312.2.2.1, bt1312.2.2.2.1, bt1312.2.2.2.2.1, 0, 0, ([] : List (S67)), bt1295.2.2.2.2.2.2, (bt1312.2.2.2.2.2.1.length : Int)))))) else ((spec_RowGet.f k a1_5 a1_6 l1_7 a2).bind fun bt1327 => (if bt1327.2.2.2.2 = true then (some (0, 0, ([] : List (S67)), ([] : List (S67)), ([] : List Int), bt1327.1, bt1327.2.1, bt1327.2.2.1, bt1327.2.2.2.2, ((([] : List ByteArray)).length : Int))) else ((spec_RowPut.f k a1_5 a1_6 l1_7 a2 (⟨#[]⟩ : ByteArray)).bind fun bt1338 => (some (0, 0, ([] : List (S67)), ([] : List (S67)), ([] : List Int), bt1338.1, bt1338.2.1, bt1338.2.2.1, bt1327.2.2.2.2, (bt1338.2.2.2.1.length : Int))))))
theorem spec_l12Ask.calls (k : Nat) (a0_0 : Int) (a0_1 : Int) (a0_2 : Int) (a1_0 : Int) (a1_1 : Int) (A1_2 : Option Addr) (c1_2 : Nat) (l1_2 : List (S67)) (A1_3 : Option Addr) (c1_3 : Nat) (l1_3 : List (S67)) (A1_4 : Option Addr) (c1_4 : Nat) (l1_4 : List Int) (a1_5 : Int) (a1_6 : Int) (A1_7 : Option Addr) (c1_7 : Nat) (l1_7 : List (S67)) (a2 : ByteArray) (r1 : Int) (r2 : Int) (r3 : List (S67)) (r4 : List (S67)) (r5 : List Int) (r6 : Int) (r7 : Int) (r8 : List (S67)) (r9 : Bool) (r10 : Int) (w : World) (hr1_2 : Kd.C k67 w A1_2 l1_2.length l1_2) (hc1_2 : l1_2.length ≤ c1_2) (hr1_3 : Kd.C k67 w A1_3 l1_3.length l1_3) (hc1_3 : l1_3.length ≤ c1_3) (hr1_4 : Kd.C (Kd.int .i64) w A1_4 l1_4.length l1_4) (hc1_4 : l1_4.length ≤ c1_4) (hr1_7 : Kd.C k67 w A1_7 l1_7.length l1_7) (hc1_7 : l1_7.length ≤ c1_7) (h : spec_l12Ask.f k a0_0 a0_1 a0_2 a1_0 a1_1 l1_2 l1_3 l1_4 a1_5 a1_6 l1_7 a2 = some (r1, r2, r3, r4, r5, r6, r7, r8, r9, r10)) :
  Calls Try.prog 74 #[.agg #[.int .i64 a0_0, .int .i64 a0_1, .int .i64 a0_2], .agg #[.int .i64 a1_0, .int .i64 a1_1, .slice A1_2 l1_2.length c1_2, .slice A1_3 l1_3.length c1_3, .slice A1_4 l1_4.length c1_4, .int .i64 a1_5, .int .i64 a1_6, .slice A1_7 l1_7.length c1_7], .string a2] w fun e w' => ∃ v2_ v3_ v4_ v7_ : Value, e = .returned (.tuple #[.agg #[.int .i64 r1, .int .i64 r2, v2_, v3_, v4_, .int .i64 r6, .int .i64 r7, v7_], .bool r9, .int .i64 r10]) ∧ Mem w [] w' [rowR k67 67 v2_ r3, rowR k67 67 v3_ r4, row (Kd.int .i64) 3 v4_ r5, rowR k67 67 v7_ r8] := by
 have hu31 := Try.underlying31
 have hu85 := Try.underlying85
 have hu71 := Try.underlying71
 have hu75 := Try.underlying75
 have HR1_2 := Aside0.mk hr1_2
 have HC1_2 := Aside0.mk hc1_2
 clear hr1_2 hc1_2
 have HR1_3 := Aside0.mk hr1_3
 have HC1_3 := Aside0.mk hc1_3
 clear hr1_3 hc1_3
 have HR1_4 := Aside0.mk hr1_4
 have HC1_4 := Aside0.mk hc1_4
 clear hr1_4 hc1_4
 have HR1_7 := Aside0.mk hr1_7
 have HC1_7 := Aside0.mk hc1_7
 clear hr1_7 hc1_7
 have HM := Mem.nil w
 have H := h
 clear h
 unfold spec_l12Ask.f at H
 go_enter Try.func74, Try.ntmps74
 go_upto_if 19 with (first | ((with_reducible refine gN 3 rfl ?_); refine pB 3 31 [.int .i64 a0_0, .int .i64 a0_1, .int .i64 a0_2] HM rfl ?_; clear HM; intro gb1292 w4 HM) | ((with_reducible refine gN 4 rfl ?_); refine pB 4 85 [.int .i64 a1_0, .int .i64 a1_1, .slice A1_2 l1_2.length c1_2, .slice A1_3 l1_3.length c1_3, .slice A1_4 l1_4.length c1_4, .int .i64 a1_5, .int .i64 a1_6, .slice A1_7 l1_7.length c1_7] HM rfl ?_; clear HM; intro gb1293 w5 HM) | ((with_reducible refine gN 6 rfl ?_); refine pB 6 85 [.int .i64 0, .int .i64 0, .slice none 0 0, .slice none 0 0, .slice none 0 0, .int .i64 0, .int .i64 0, .slice none 0 0] HM rfl ?_; clear HM; intro gb1294 w6 HM; obtain ⟨_,_,_,_,_,_⟩ := bk3 (HM.bx 0 rfl)))
 replace HM := nzM HM
 replace H := IT H; rcases H with ⟨c8, H⟩ | ⟨c8, H⟩
 ·obtain ⟨c8b0, c8b1⟩ := BE c8
  clear c8
  first|rw [c8b0]|(simp only [i64_w, i32_w]; rw [c8b0])|skip
  replace H := BN H; obtain ⟨⟨t1295, t1296, t1297, t1300, t1303, t1306, t1307⟩, A10, H⟩ := H
  obtain ⟨_,_,_,_,_,_,_,_,_,_,_,_,_,_,_,_⟩ := bk8 (HM.bx 1 rfl)
  go_upto_if 30 with (first | ((with_reducible refine gC 92 rfl ?_); refine pC (some 24) rfl #[.agg #[.int .i64 a1_0, .int .i64 a1_1, .slice A1_2 l1_2.length c1_2, .slice A1_3 l1_3.length c1_3, .slice A1_4 l1_4.length c1_4], .string a2] rfl Try.func92 (spec_Get.calls k a1_0 a1_1 _ _ l1_2 _ _ l1_3 _ _ l1_4 a2 t1295 t1296 t1297 t1300 t1303 t1306 t1307 _ (HM.came HR1_2.out) HC1_2.out (HM.came HR1_3.out) HC1_3.out (HM.came HR1_4.out) HC1_4.out A10.out) ?_; rintro e w11 ⟨v1298, v1301, v1304, rfl, hR⟩; refine ⟨_, rfl, ?_⟩; replace HM := HM.call hR; clear hR) | ((with_reducible refine gN 9 rfl ?_); refine pB 9 71 [.int .i64 0, .int .i64 0, .slice none 0 0, .slice none 0 0, .slice none 0 0] HM rfl ?_; clear HM; intro gb1308 w12 HM; obtain ⟨Xo13, ko13, rfl⟩ := HM.rdR 3 rfl; obtain ⟨Xo14, ko14, rfl⟩ := HM.rdR 4 rfl; obtain ⟨Xo15, ko15, rfl⟩ := HM.rdR 5 rfl) | ((with_reducible refine gS 9 rfl ?_); refine pS 6 9 0 [.int .i64 t1295, .int .i64 t1296, .slice Xo13 t1297.length ko13, .slice Xo14 t1300.length ko14, .slice Xo15 t1303.length ko15] HM rfl rfl ?_; clear HM; intro w16 HM) | ((with_reducible refine gN 28 rfl ?_); refine pL 28 Kd.string 9 ([] : List ByteArray) [] (Reps.none _ _) HM rfl ?_; clear HM; intro v1310 w17 HM))
  replace HM := nzM HM
  replace H := IB H
  rcases H with ⟨c18, H⟩ | ⟨c18, H⟩
  ·subst c18
   simp only [Option.some.injEq, Prod.mk.injEq] at H
   obtain ⟨rfl, rfl, rfl, rfl, rfl, rfl, rfl, rfl, rfl, rfl⟩ := H
   obtain ⟨_,_,_,_,_,_,_,_,_,_⟩ := bk5 (HM.bx 6 rfl)
   obtain ⟨Xo20, ko20, rfl⟩ := HM.rdR 7 rfl
   go_wp2_with (first | ((with_reducible refine gS 6 rfl ?_); refine pS 2 6 0 [.int .i64 t1295, .int .i64 t1296, .slice Xo13 t1297.length ko13, .slice Xo14 t1300.length ko14, .slice Xo15 t1303.length ko15, .int .i64 0, .int .i64 0, .slice none 0 0] HM rfl rfl ?_; clear HM; intro w21 HM; replace HM := HM.toQ 5 rfl; replace HM := HM.nl k67 67))
   refine bodyPost_ret (results_ctt rfl _ _ gb1294 85 #[.int .i64 t1295, .int .i64 t1296, .slice Xo13 t1297.length ko13, .slice Xo14 t1300.length ko14, .slice Xo15 t1303.length ko15, .int .i64 0, .int .i64 0, .slice none 0 0] (0, 0) _ rfl (HM.bx 2 rfl) Try.underlying85 rfl (by kernel_rfl)) rfl ?_
   exact ⟨_, _, _, _, ER, (MD HM).pick [3, 4, 5, 8]⟩
  ·subst c18
   replace H := BN H; obtain ⟨⟨t1312, t1313, t1314, t1317, t1320, t1323, t1326⟩, A23, H⟩ := H
   simp only [Option.some.injEq, Prod.mk.injEq] at H
   obtain ⟨rfl, rfl, rfl, rfl, rfl, rfl, rfl, rfl, rfl, rfl⟩ := H
   obtain ⟨_,_,_,_,_,_,_,_,_,_,_,_,_,_,_,_⟩ := bk8 (HM.bx 1 rfl)
   go_wp2_with (first | ((with_reducible refine gC 93 rfl ?_); refine pC (some 35) rfl #[.agg #[.int .i64 a1_0, .int .i64 a1_1, .slice A1_2 l1_2.length c1_2, .slice A1_3 l1_3.length c1_3, .slice A1_4 l1_4.length c1_4], .string a2, .string (⟨#[]⟩ : ByteArray)] rfl Try.func93 (spec_Put.calls k a1_0 a1_1 _ _ l1_2 _ _ l1_3 _ _ l1_4 a2 (⟨#[]⟩ : ByteArray) t1312 t1313 t1314 t1317 t1320 t1323 t1326 _ (HM.came HR1_2.out) HC1_2.out (HM.came HR1_3.out) HC1_3.out (HM.came HR1_4.out) HC1_4.out A23.out) ?_; rintro e w24 ⟨v1315, v1318, v1321, v1324, rfl, hR⟩; refine ⟨_, rfl, ?_⟩; replace HM := HM.call hR; clear hR; obtain ⟨Xo25, ko25, rfl⟩ := HM.rdR 8 rfl; obtain ⟨Xo26, ko26, rfl⟩ := HM.rdR 9 rfl; obtain ⟨Xo27, ko27, rfl⟩ := HM.rd 10 rfl) | ((with_reducible refine gS 9 rfl ?_); refine pS 6 9 0 [.int .i64 t1312, .int .i64 t1313, .slice Xo25 t1314.length ko25, .slice Xo26 t1317.length ko26, .slice Xo27 t1320.length ko27] HM rfl rfl ?_; clear HM; intro w28 HM; obtain ⟨_,_,_,_,_,_,_,_,_,_⟩ := bk5 (HM.bx 6 rfl); obtain ⟨Xo30, ko30, rfl⟩ := HM.rdR 11 rfl) | ((with_reducible refine gS 6 rfl ?_); refine pS 2 6 0 [.int .i64 t1312, .int .i64 t1313, .slice Xo25 t1314.length ko25, .slice Xo26 t1317.length ko26, .slice Xo27 t1320.length ko27, .int .i64 0, .int .i64 0, .slice none 0 0] HM rfl rfl ?_; clear HM; intro w31 HM; replace HM := HM.nl k67 67))
   refine bodyPost_ret (results_ctt rfl _ _ gb1294 85 #[.int .i64 t1312, .int .i64 t1313, .slice Xo25 t1314.length ko25, .slice Xo26 t1317.length ko26, .slice Xo27 t1320.length ko27, .int .i64 0, .int .i64 0, .slice none 0 0] (0, 0) _ rfl (HM.bx 2 rfl) Try.underlying85 rfl (by kernel_rfl)) rfl ?_
   exact ⟨_, _, _, _, ER, (MD HM).pick [8, 9, 10, 12]⟩
 ·have c8b0 : (a0_0 == 4) = false := beq_eq_false_iff_ne.mpr c8
  have c8b1 : (a0_0 != 4) = true := bne_iff_ne.mpr c8
  first|rw [c8b0]|(simp only [i64_w, i32_w]; rw [c8b0])|skip
  replace H := BN H; obtain ⟨⟨t1327, t1328, t1329, t1332, t1333⟩, A33, H⟩ := H
  obtain ⟨_,_,_,_,_,_,_,_,_,_,_,_,_,_,_,_⟩ := bk8 (HM.bx 1 rfl)
  go_upto_if 54 with (first | ((with_reducible refine gC 94 rfl ?_); refine pC (some 48) rfl #[.agg #[.int .i64 a1_5, .int .i64 a1_6, .slice A1_7 l1_7.length c1_7], .string a2] rfl Try.func94 (spec_RowGet.calls k a1_5 a1_6 _ _ l1_7 a2 t1327 t1328 t1329 t1332 t1333 _ (HM.came HR1_7.out) HC1_7.out A33.out) ?_; rintro e w34 ⟨v1330, rfl, hR⟩; refine ⟨_, rfl, ?_⟩; replace HM := HM.call hR; clear hR) | ((with_reducible refine gN 13 rfl ?_); refine pB 13 75 [.int .i64 0, .int .i64 0, .slice none 0 0] HM rfl ?_; clear HM; intro gb1334 w35 HM; obtain ⟨Xo36, ko36, rfl⟩ := HM.rdR 3 rfl) | ((with_reducible refine gS 13 rfl ?_); refine pS 4 13 0 [.int .i64 t1327, .int .i64 t1328, .slice Xo36 t1329.length ko36] HM rfl rfl ?_; clear HM; intro w37 HM) | ((with_reducible refine gN 52 rfl ?_); refine pL 52 Kd.string 9 ([] : List ByteArray) [] (Reps.none _ _) HM rfl ?_; clear HM; intro v1336 w38 HM))
  replace HM := nzM HM
  replace H := IB H
  rcases H with ⟨c39, H⟩ | ⟨c39, H⟩
  ·subst c39
   simp only [Option.some.injEq, Prod.mk.injEq] at H
   obtain ⟨rfl, rfl, rfl, rfl, rfl, rfl, rfl, rfl, rfl, rfl⟩ := H
   obtain ⟨_,_,_,_,_,_⟩ := bk3 (HM.bx 4 rfl)
   obtain ⟨Xo41, ko41, rfl⟩ := HM.rdR 5 rfl
   go_wp2_with (first | ((with_reducible refine gS 6 rfl ?_); refine pS 2 6 0 [.int .i64 0, .int .i64 0, .slice none 0 0, .slice none 0 0, .slice none 0 0, .int .i64 t1327, .int .i64 t1328, .slice Xo36 t1329.length ko36] HM rfl rfl ?_; clear HM; intro w42 HM; replace HM := HM.nl k67 67; replace HM := HM.nl k67 67; replace HM := HM.nl (Kd.int .i64) 3; replace HM := HM.toQ 8 rfl))
   refine bodyPost_ret (results_ctt rfl _ _ gb1294 85 #[.int .i64 0, .int .i64 0, .slice none 0 0, .slice none 0 0, .slice none 0 0, .int .i64 t1327, .int .i64 t1328, .slice Xo36 t1329.length ko36] (0, 0) _ rfl (HM.bx 2 rfl) Try.underlying85 rfl (by kernel_rfl)) rfl ?_
   exact ⟨_, _, _, _, ER, (MD HM).pick [6, 7, 8, 3]⟩
  ·subst c39
   replace H := BN H; obtain ⟨⟨t1338, t1339, t1340, t1343, t1346⟩, A44, H⟩ := H
   simp only [Option.some.injEq, Prod.mk.injEq] at H
   obtain ⟨rfl, rfl, rfl, rfl, rfl, rfl, rfl, rfl, rfl, rfl⟩ := H
   obtain ⟨_,_,_,_,_,_,_,_,_,_,_,_,_,_,_,_⟩ := bk8 (HM.bx 1 rfl)
   go_wp2_with (first | ((with_reducible refine gC 95 rfl ?_); refine pC (some 59) rfl #[.agg #[.int .i64 a1_5, .int .i64 a1_6, .slice A1_7 l1_7.length c1_7], .string a2, .string (⟨#[]⟩ : ByteArray)] rfl Try.func95 (spec_RowPut.calls k a1_5 a1_6 _ _ l1_7 a2 (⟨#[]⟩ : ByteArray) t1338 t1339 t1340 t1343 t1346 _ (HM.came HR1_7.out) HC1_7.out A44.out) ?_; rintro e w45 ⟨v1341, v1344, rfl, hR⟩; refine ⟨_, rfl, ?_⟩; replace HM := HM.call hR; clear hR; obtain ⟨Xo46, ko46, rfl⟩ := HM.rdR 6 rfl) | ((with_reducible refine gS 13 rfl ?_); refine pS 4 13 0 [.int .i64 t1338, .int .i64 t1339, .slice Xo46 t1340.length ko46] HM rfl rfl ?_; clear HM; intro w47 HM; obtain ⟨_,_,_,_,_,_⟩ := bk3 (HM.bx 4 rfl); obtain ⟨Xo49, ko49, rfl⟩ := HM.rdR 7 rfl) | ((with_reducible refine gS 6 rfl ?_); refine pS 2 6 0 [.int .i64 0, .int .i64 0, .slice none 0 0, .slice none 0 0, .slice none 0 0, .int .i64 t1338, .int .i64 t1339, .slice Xo46 t1340.length ko46] HM rfl rfl ?_; clear HM; intro w50 HM; replace HM := HM.nl k67 67; replace HM := HM.nl k67 67; replace HM := HM.nl (Kd.int .i64) 3; replace HM := HM.toQ 10 rfl))
   refine bodyPost_ret (results_ctt rfl _ _ gb1294 85 #[.int .i64 0, .int .i64 0, .slice none 0 0, .slice none 0 0, .slice none 0 0, .int .i64 t1338, .int .i64 t1339, .slice Xo46 t1340.length ko46] (0, 0) _ rfl (HM.bx 2 rfl) Try.underlying85 rfl (by kernel_rfl)) rfl ?_
   exact ⟨_, _, _, _, ER, (MD HM).pick [8, 9, 10, 6]⟩
def spec_l12Go.l0 : Nat → List Bool → Int → List ByteArray → Int → Int → Int → Int → Int → Int → Int → List (S67) → List (S67) → List Int → Int → Int → List (S67) → Option (Int × Int × (List (S67)) × (List (S67)) × List Int × Int × Int × (List (S67)) × List Bool × Int)
 | 0, _, _, _, _, _, _, _, _, _, _, _, _, _, _, _, _ => none
 | k + 1, x8, x9, x18, x19, x20, x1356000, x1356001, x1356002, x1374000, x1374001, x1374002, x1374003, x1374004, x1374005, x1374006, x1374007 => if x20 < x19 then (if 0 ≤ x20 then (if x20 < (x18.length : Int) then ((spec_l12Ask.f k x1356000 x1356001 x1356002 x1374000 x1374001 x1374002 x1374003 x1374004 x1374005 x1374006 x1374007 (rdOf ByteArray.empty x18 x20)).bind fun bt1378 => (if x8.length < 140737488355328 then (spec_l12Go.l0 k (x8 ++ [bt1378.2.2.2.2.2.2.2.2.1]) (wrap64 (x9 + bt1378.2.2.2.2.2.2.2.2.2)) x18 x19 (wrap64 (x20 + 1)) x1356000 x1356001 x1356002 bt1378.1 bt1378.2.1 bt1378.2.2.1 bt1378.2.2.2.1 bt1378.2.2.2.2.1 bt1378.2.2.2.2.2.1 bt1378.2.2.2.2.2.2.1 bt1378.2.2.2.2.2.2.2.1) else (none))) else (none)) else (none)) else (some (x1374000, x1374001, x1374002, x1374003, x1374004, x1374005, x1374006, x1374007, x8, x9))
def spec_l12Go.f (k : Nat) (a0_0 : Int) (a0_1 : Int) (a0_2 : Int) (l1 : List ByteArray) : Option (Int × Int × (List (S67)) × (List (S67)) × List Int × Int × Int × (List (S67)) × List Bool × Int) := (spec_l12New.f k a0_0 a0_1 a0_2).bind fun bt1357 => (spec_l12Go.l0 k (([] : List Bool)) 0 l1 (l1.length : Int) 0 a0_0 a0_1 a0_2 bt1357.1 bt1357.2.1 bt1357.2.2.1 bt1357.2.2.2.1 bt1357.2.2.2.2.1 bt1357.2.2.2.2.2.1 bt1357.2.2.2.2.2.2.1 bt1357.2.2.2.2.2.2.2)
theorem spec_l12Go.calls (k : Nat) (a0_0 : Int) (a0_1 : Int) (a0_2 : Int) (A1 : Option Addr) (c1 : Nat) (l1 : List ByteArray) (r1 : Int) (r2 : Int) (r3 : List (S67)) (r4 : List (S67)) (r5 : List Int) (r6 : Int) (r7 : Int) (r8 : List (S67)) (r9 : List Bool) (r10 : Int) (w : World) (hr1 : Kd.C Kd.string w A1 l1.length l1) (hc1 : l1.length ≤ c1) (h : spec_l12Go.f k a0_0 a0_1 a0_2 l1 = some (r1, r2, r3, r4, r5, r6, r7, r8, r9, r10)) :
  Calls Try.prog 55 #[.agg #[.int .i64 a0_0, .int .i64 a0_1, .int .i64 a0_2], .slice A1 l1.length c1] w fun e w' => ∃ v2_ v3_ v4_ v7_ v8_ : Value, e = .returned (.tuple #[.agg #[.int .i64 r1, .int .i64 r2, v2_, v3_, v4_, .int .i64 r6, .int .i64 r7, v7_], v8_, .int .i64 r10]) ∧ Mem w [] w' [rowR k67 67 v2_ r3, rowR k67 67 v3_ r4, row (Kd.int .i64) 3 v4_ r5, rowR k67 67 v7_ r8, rowR Kd.bool 4 v8_ r9] := by
 have hu31 := Try.underlying31
 have hu85 := Try.underlying85
 have HR1 := Aside0.mk hr1
 have HC1 := Aside0.mk hc1
 clear hr1 hc1
 have HM := Mem.nil w
 have H := h
 clear h
 unfold spec_l12Go.f at H
 go_enter Try.func55, Try.ntmps55
 replace H := BN H; obtain ⟨⟨t1357, t1358, t1359, t1362, t1365, t1368, t1369, t1370⟩, A6, H⟩ := H
 have H' := Aside0.mk H
 clear H
 go_wp2_with (first | ((with_reducible refine gN 2 rfl ?_); refine pB 2 31 [.int .i64 a0_0, .int .i64 a0_1, .int .i64 a0_2] HM rfl ?_; clear HM; intro gb1355 w3 HM) | ((with_reducible refine gN 4 rfl ?_); refine pB 4 85 [.int .i64 0, .int .i64 0, .slice none 0 0, .slice none 0 0, .slice none 0 0, .int .i64 0, .int .i64 0, .slice none 0 0] HM rfl ?_; clear HM; intro gb1356 w4 HM; obtain ⟨_,_,_,_,_,_⟩ := bk3 (HM.bx 0 rfl)) | ((with_reducible refine gC 73 rfl ?_); refine pC (some 16) rfl #[.agg #[.int .i64 a0_0, .int .i64 a0_1, .int .i64 a0_2]] rfl Try.func73 (spec_l12New.calls k a0_0 a0_1 a0_2 t1357 t1358 t1359 t1362 t1365 t1368 t1369 t1370 _ A6.out) ?_; rintro e w7 ⟨v1360, v1363, v1366, v1371, rfl, hR⟩; refine ⟨_, rfl, ?_⟩; replace HM := HM.call hR; clear hR) | ((with_reducible refine gN 7 rfl ?_); refine pB 7 85 [.int .i64 0, .int .i64 0, .slice none 0 0, .slice none 0 0, .slice none 0 0, .int .i64 0, .int .i64 0, .slice none 0 0] HM rfl ?_; clear HM; intro gb1373 w8 HM; obtain ⟨Xo9, ko9, rfl⟩ := HM.rdR 2 rfl; obtain ⟨Xo10, ko10, rfl⟩ := HM.rdR 3 rfl; obtain ⟨Xo11, ko11, rfl⟩ := HM.rdR 4 rfl; obtain ⟨Xo12, ko12, rfl⟩ := HM.rdR 5 rfl) | ((with_reducible refine gS 7 rfl ?_); refine pS 6 7 0 [.int .i64 t1357, .int .i64 t1358, .slice Xo9 t1359.length ko9, .slice Xo10 t1362.length ko10, .slice Xo11 t1365.length ko11, .int .i64 t1368, .int .i64 t1369, .slice Xo12 t1370.length ko12] HM rfl rfl ?_; clear HM; intro w13 HM) | ((with_reducible refine gN 17 rfl ?_); refine pL 17 Kd.bool 4 ([] : List Bool) [] (Reps.none _ _) HM rfl ?_; clear HM; intro v1375 w14 HM; replace HM := HM.toQ 4 rfl))
 go_loopg [8, 9, 20] k (fun kq v8 v9 v20 w' => ∃ (x8_1 : List Bool) (x9_1 : Int) (x20_1 : Int) (x1374000_1 : Int) (x1374001_1 : Int) (x1374002_1 : List (S67)) (x1374003_1 : List (S67)) (x1374004_1 : List Int) (x1374005_1 : Int) (x1374006_1 : Int) (x1374007_1 : List (S67)) (u1374002 : Value) (u1374003 : Value) (u1374004 : Value) (u1374007 : Value), v9 = .int .i64 x9_1 ∧ v20 = .int .i64 x20_1 ∧ Aside0 (spec_l12Go.l0 kq x8_1 x9_1 l1 (l1.length : Int) x20_1 a0_0 a0_1 a0_2 x1374000_1 x1374001_1 x1374002_1 x1374003_1 x1374004_1 x1374005_1 x1374006_1 x1374007_1 = some (r1, r2, r3, r4, r5, r6, r7, r8, r9, r10)) ∧ Aside0 (kq ≤ k) ∧ Mem w [] w' [rowR Kd.bool 4 v8 x8_1, rowR k67 67 u1374002 x1374002_1, rowR k67 67 u1374003 x1374003_1, row (Kd.int .i64) 3 u1374004 x1374004_1, rowR k67 67 u1374007 x1374007_1, box 31 gb1355 [.int .i64 a0_0, .int .i64 a0_1, .int .i64 a0_2], box 85 gb1356 [.int .i64 0, .int .i64 0, .slice none 0 0, .slice none 0 0, .slice none 0 0, .int .i64 0, .int .i64 0, .slice none 0 0], box 85 gb1373 [.int .i64 x1374000_1, .int .i64 x1374001_1, u1374002, u1374003, u1374004, .int .i64 x1374005_1, .int .i64 x1374006_1, u1374007]])
 case atStart => exact ⟨((([] : List Bool))), (0), (0), (t1357), (t1358), (t1359), (t1362), (t1365), (t1368), (t1369), (t1370), (.slice Xo9 t1359.length ko9), (.slice Xo10 t1362.length ko10), (.slice Xo11 t1365.length ko11), (.slice Xo12 t1370.length ko12), RS, RS, H', ⟨Nat.le_refl _⟩, (MD HM).pick [7, 2, 3, 4, 5, 0, 1, 6]⟩
 case round =>
  clear H' HM
  obtain ⟨x8_1, x9_1, x20_1, x1374000_1, x1374001_1, x1374002_1, x1374003_1, x1374004_1, x1374005_1, x1374006_1, x1374007_1, u1374002, u1374003, u1374004, u1374007, rfl, rfl, HA, HK1, HM⟩ := hrel
  cases gk with
  | zero => exact absurd HA.out (by simp [spec_l12Go.l0])
  | succ k1 =>
   have H := HA.out
   clear HA
   simp only [spec_l12Go.l0] at H
   go_upto_if 21 with (fail)
   replace H := IT H; rcases H with ⟨c15, H⟩ | ⟨c15, H⟩
   ·have c15b0 : decide (x20_1 < (l1.length : Int)) = true := decide_eq_true c15
    clear c15
    first|rw [c15b0]|(simp only [i64_w, i32_w]; rw [c15b0])|skip
    replace H := GD H; obtain ⟨c16, H⟩ := H
    have c16b0 : decide (0 ≤ x20_1) = true := decide_eq_true c16
    clear c16
    replace H := GD H; obtain ⟨c17, H⟩ := H
    have c17b0 : decide (x20_1 < (l1.length : Int)) = true := decide_eq_true c17
    clear c17
    replace H := BN H; obtain ⟨⟨t1378, t1379, t1380, t1383, t1386, t1389, t1390, t1391, t1394, t1395⟩, A20, H⟩ := H
    replace H := GD H; obtain ⟨c34, H⟩ := H
    have LMc34 := Aside0.mk c34
    clear c34
    have H' := Aside0.mk H
    clear H
    have p1377 : 0 ≤ (x20_1 : Int) := of_decide_eq_true AS
    have q1377 : (x20_1 : Int) < (l1.length : Int) := of_decide_eq_true AS
    obtain ⟨ad1377, e1377, hx1377_0⟩ := Kd.at_string (HM.came HR1.out) x20_1 p1377 q1377
    cases e1377
    replace p1377 := eq_true p1377
    replace q1377 := eq_true q1377
    obtain ⟨_,_,_,_,_,_⟩ := bk3 (HM.bx 5 rfl)
    obtain ⟨_,_,_,_,_,_,_,_,_,_,_,_,_,_,_,_⟩ := bk8 (HM.bx 7 rfl)
    obtain ⟨Xo22, ko22, rfl⟩ := HM.rdR 1 rfl
    obtain ⟨Xo23, ko23, rfl⟩ := HM.rdR 2 rfl
    obtain ⟨Xo24, ko24, rfl⟩ := HM.rd 3 rfl
    obtain ⟨Xo25, ko25, rfl⟩ := HM.rdR 4 rfl
    go_wp2_with (first | ((with_reducible refine gC 74 rfl ?_); refine pC (some 28) rfl #[.agg #[.int .i64 a0_0, .int .i64 a0_1, .int .i64 a0_2], .agg #[.int .i64 x1374000_1, .int .i64 x1374001_1, .slice Xo22 x1374002_1.length ko22, .slice Xo23 x1374003_1.length ko23, .slice Xo24 x1374004_1.length ko24, .int .i64 x1374005_1, .int .i64 x1374006_1, .slice Xo25 x1374007_1.length ko25], .string (rdOf ByteArray.empty l1 x20_1)] rfl Try.func74 (spec_l12Ask.calls k1 a0_0 a0_1 a0_2 x1374000_1 x1374001_1 _ _ x1374002_1 _ _ x1374003_1 _ _ x1374004_1 x1374005_1 x1374006_1 _ _ x1374007_1 (rdOf ByteArray.empty l1 x20_1) t1378 t1379 t1380 t1383 t1386 t1389 t1390 t1391 t1394 t1395 _ (HM.CR 1 rfl).2.2 (HM.CR 1 rfl).2.1 (HM.CR 2 rfl).2.2 (HM.CR 2 rfl).2.1 (HM.C 3 rfl).2.2 (HM.C 3 rfl).2.1 (HM.CR 4 rfl).2.2 (HM.CR 4 rfl).2.1 A20.out) ?_; rintro e w21 ⟨v1381, v1384, v1387, v1392, rfl, hR⟩; refine ⟨_, rfl, ?_⟩; replace HM := HM.call hR; clear hR) | ((with_reducible refine gN 12 rfl ?_); refine pB 12 85 [.int .i64 0, .int .i64 0, .slice none 0 0, .slice none 0 0, .slice none 0 0, .int .i64 0, .int .i64 0, .slice none 0 0] HM rfl ?_; clear HM; intro gb1396 w26 HM; obtain ⟨Xo27, ko27, rfl⟩ := HM.rdR 8 rfl; obtain ⟨Xo28, ko28, rfl⟩ := HM.rdR 9 rfl; obtain ⟨Xo29, ko29, rfl⟩ := HM.rd 10 rfl; obtain ⟨Xo30, ko30, rfl⟩ := HM.rdR 11 rfl) | ((with_reducible refine gS 12 rfl ?_); refine pS 12 12 0 [.int .i64 t1378, .int .i64 t1379, .slice Xo27 t1380.length ko27, .slice Xo28 t1383.length ko28, .slice Xo29 t1386.length ko29, .int .i64 t1389, .int .i64 t1390, .slice Xo30 t1391.length ko30] HM rfl rfl ?_; clear HM; intro w31 HM; obtain ⟨_,_,_,_,_,_,_,_,_,_,_,_,_,_,_,_⟩ := bk8 (HM.bx 12 rfl)) | ((with_reducible refine gS 7 rfl ?_); refine pS 7 7 0 [.int .i64 t1378, .int .i64 t1379, .slice Xo27 t1380.length ko27, .slice Xo28 t1383.length ko28, .slice Xo29 t1386.length ko29, .int .i64 t1389, .int .i64 t1390, .slice Xo30 t1391.length ko30] HM rfl rfl ?_; clear HM; intro w33 HM) | ((with_reducible refine gN 35 rfl ?_); refine pL 35 Kd.bool 4 [t1394] [.bool t1394] (Reps.one (show Kd.M Kd.bool _ _ _ t1394 [.bool t1394] from rfl) (Reps.none _ _)) HM rfl ?_; clear HM; intro v36 w35 HM; obtain ⟨Xv36, kv36, rfl⟩ := HM.rdR 13 rfl) | ((with_reducible refine gate_builtin (b := .append) (xs := #[.tmp 33, .tmp 35]) rfl ?_); refine pA 0 (.tmp 33) (.tmp 35) 57 4 Kd.bool u8 x8_1 [t1394] Xv36 ([t1394].length) kv36 HM rfl Try.underlying57 info4 rfl (HM.CR 13 rfl).2.2 (by have h_ := LMc34.out; simp only [List.length_singleton]; omega) ?_; clear HM; intro v1398 w37 HM))
    go_roundg k1
    case measure => have := HK1.out; omega
    case rel => exact ⟨((x8_1 ++ [t1394])), (wrap64 (x9_1 + t1395)), (wrap64 (x20_1 + 1)), (t1378), (t1379), (t1380), (t1383), (t1386), (t1389), (t1390), (t1391), (.slice Xo27 t1380.length ko27), (.slice Xo28 t1383.length ko28), (.slice Xo29 t1386.length ko29), (.slice Xo30 t1391.length ko30), RS, RS, H', ⟨by have := HK1.out; omega⟩, (MD HM).pick [0, 8, 9, 10, 11, 5, 6, 7]⟩
   ·have c15b0 : decide (x20_1 < (l1.length : Int)) = false := decide_eq_false c15
    clear c15
    first|rw [c15b0]|(simp only [i64_w, i32_w]; rw [c15b0])|skip
    simp only [Option.some.injEq, Prod.mk.injEq] at H
    obtain ⟨rfl, rfl, rfl, rfl, rfl, rfl, rfl, rfl, rfl, rfl⟩ := H
    obtain ⟨_,_,_,_,_,_,_,_,_,_,_,_,_,_,_,_⟩ := bk8 (HM.bx 7 rfl)
    obtain ⟨Xo39, ko39, rfl⟩ := HM.rdR 1 rfl
    obtain ⟨Xo40, ko40, rfl⟩ := HM.rdR 2 rfl
    obtain ⟨Xo41, ko41, rfl⟩ := HM.rd 3 rfl
    obtain ⟨Xo42, ko42, rfl⟩ := HM.rdR 4 rfl
    go_wp2_with (first | ((with_reducible refine gS 4 rfl ?_); refine pS 6 4 0 [.int .i64 x1374000_1, .int .i64 x1374001_1, .slice Xo39 x1374002_1.length ko39, .slice Xo40 x1374003_1.length ko40, .slice Xo41 x1374004_1.length ko41, .int .i64 x1374005_1, .int .i64 x1374006_1, .slice Xo42 x1374007_1.length ko42] HM rfl rfl ?_; clear HM; intro w43 HM))
    refine bodyPost_ret (results_ctt rfl _ _ gb1356 85 #[.int .i64 x1374000_1, .int .i64 x1374001_1, .slice Xo39 x1374002_1.length ko39, .slice Xo40 x1374003_1.length ko40, .slice Xo41 x1374004_1.length ko41, .int .i64 x1374005_1, .int .i64 x1374006_1, .slice Xo42 x1374007_1.length ko42] (0, 0) _ rfl (HM.bx 6 rfl) Try.underlying85 rfl (by kernel_rfl)) rfl ?_
    exact ⟨_, _, _, _, _, ER, (MD HM).pick [1, 2, 3, 4, 0]⟩
mutual
def spec_CountOf.j0 : Nat → List ByteArray → Bool → Int → Int → Int → Option (Int × Int × Int × Int)
 | 0, _, _, _, _, _ => none
 | k + 1, x1, x18, x1401000, x1401001, x1401002 => if x18 = true then (some (0, 0, 0, 0)) else ((spec_l12Go.f k x1401000 x1401001 x1401002 x1).bind fun bt1404 => (spec_CountOf.l0 k bt1404.2.2.2.2.2.2.2.2.1 (bt1404.2.2.2.2.2.2.2.2.1.length : Int) 0 (x1.length : Int) 0 0 bt1404.2.2.2.2.2.2.2.2.2))
def spec_CountOf.l0 : Nat → List Bool → Int → Int → Int → Int → Int → Int → Option (Int × Int × Int × Int)
 | 0, _, _, _, _, _, _, _ => none
 | k + 1, x31, x32, x33, x1426000, x1426001, x1426002, x1426003 => if x33 < x32 then (if 0 ≤ x33 then (if x33 < (x31.length : Int) then (if rdOf false x31 x33 = true then (spec_CountOf.l0 k x31 x32 (wrap64 (x33 + 1)) x1426000 (wrap64 (x1426001 + 1)) x1426002 x1426003) else (spec_CountOf.l0 k x31 x32 (wrap64 (x33 + 1)) x1426000 x1426001 (wrap64 (x1426002 + 1)) x1426003)) else (none)) else (none)) else (some (x1426000, x1426001, x1426002, x1426003))
end
def spec_CountOf.f (k : Nat) (a0_0 : Int) (a0_1 : Int) (a0_2 : Int) (l1 : List ByteArray) : Option (Int × Int × Int × Int) := (spec_SetupOk.f k a0_0 a0_1 a0_2).bind fun t1402 => (if t1402 = true then ((spec_AsksOk.f k l1).bind fun t1403 => (spec_CountOf.j0 k l1 (!t1403) a0_0 a0_1 a0_2)) else (spec_CountOf.j0 k l1 true a0_0 a0_1 a0_2))
theorem spec_CountOf.calls (k : Nat) (a0_0 : Int) (a0_1 : Int) (a0_2 : Int) (A1 : Option Addr) (c1 : Nat) (l1 : List ByteArray) (r1 : Int) (r2 : Int) (r3 : Int) (r4 : Int) (w : World) (hr1 : Kd.C Kd.string w A1 l1.length l1) (hc1 : l1.length ≤ c1) (h : spec_CountOf.f k a0_0 a0_1 a0_2 l1 = some (r1, r2, r3, r4)) :
  Calls Try.prog 38 #[.agg #[.int .i64 a0_0, .int .i64 a0_1, .int .i64 a0_2], .slice A1 l1.length c1] w fun e w' => e = .returned (.agg #[.int .i64 r1, .int .i64 r2, .int .i64 r3, .int .i64 r4]) ∧ Mem w [] w' [] := by
 have hu31 := Try.underlying31
 have hu35 := Try.underlying35
 have hu85 := Try.underlying85
 have HR1 := Aside0.mk hr1
 have HC1 := Aside0.mk hc1
 clear hr1 hc1
 have HM := Mem.nil w
 have H := h
 clear h
 unfold spec_CountOf.f at H
 go_enter Try.func38, Try.ntmps38
 have HC5 := Aside0.mk H
 clear H
 go_upto_region 1 with (first | ((with_reducible refine gN 2 rfl ?_); refine pB 2 31 [.int .i64 a0_0, .int .i64 a0_1, .int .i64 a0_2] HM rfl ?_; clear HM; intro gb1400 w3 HM) | ((with_reducible refine gN 4 rfl ?_); refine pB 4 35 [.int .i64 0, .int .i64 0, .int .i64 0, .int .i64 0] HM rfl ?_; clear HM; intro gb1401 w4 HM))
 replace HM := nzM HM
 try simp only [Act.put, List.setIfInBounds_toArray, List.set_cons_zero, List.set_cons_succ]
 go_cut [18] (fun v18 wc => ∃ (kq : Nat) (x18_4 : Bool), v18 = .bool x18_4 ∧ Aside0 (spec_CountOf.j0 kq l1 x18_4 a0_0 a0_1 a0_2 = some (r1, r2, r3, r4)) ∧ Aside0 (kq ≤ k) ∧ Mem w [] wc [box 31 gb1400 [.int .i64 a0_0, .int .i64 a0_1, .int .i64 a0_2], box 35 gb1401 [.int .i64 0, .int .i64 0, .int .i64 0, .int .i64 0]])
 case first =>
  have H := HC5.out
  clear HC5
  replace H := BN H; obtain ⟨t1402, A7, H⟩ := H
  replace H := IB H
  rcases H with ⟨c9, H⟩ | ⟨c9, H⟩
  ·subst c9
   replace H := BN H; obtain ⟨t1403, A10, H⟩ := H
   have H' := Aside0.mk H
   clear H
   obtain ⟨_,_,_,_,_,_⟩ := bk3 (HM.bx 0 rfl)
   go_wp2_with (first | ((with_reducible refine gC 54 rfl ?_); refine pC (some 12) rfl #[.agg #[.int .i64 a0_0, .int .i64 a0_1, .int .i64 a0_2]] rfl Try.func54 (spec_SetupOk.calls k a0_0 a0_1 a0_2 true _ A7.out) ?_; rintro e w8 ⟨rfl, hR⟩; refine ⟨_, rfl, ?_⟩; replace HM := HM.call hR; clear hR) | ((with_reducible refine gC 50 rfl ?_); refine pC (some 16) rfl #[.slice A1 l1.length c1] rfl Try.func50 (spec_AsksOk.calls k _ _ l1 t1403 _ (HM.came HR1.out) HC1.out A10.out) ?_; rintro e w11 ⟨rfl, hR⟩; refine ⟨_, rfl, ?_⟩; replace HM := HM.call hR; clear hR))
   go_meet
   case rel => exact ⟨_, (!t1403), RS, H', ⟨by first | omega | exact Nat.le_refl _⟩, (MD HM).pick [0, 1]⟩
  ·subst c9
   have H' := Aside0.mk H
   clear H
   obtain ⟨_,_,_,_,_,_⟩ := bk3 (HM.bx 0 rfl)
   go_wp2_with (first | ((with_reducible refine gC 54 rfl ?_); refine pC (some 12) rfl #[.agg #[.int .i64 a0_0, .int .i64 a0_1, .int .i64 a0_2]] rfl Try.func54 (spec_SetupOk.calls k a0_0 a0_1 a0_2 false _ A7.out) ?_; rintro e w8 ⟨rfl, hR⟩; refine ⟨_, rfl, ?_⟩; replace HM := HM.call hR; clear hR))
   go_meet
   case rel => exact ⟨_, (true), RS, H', ⟨by first | omega | exact Nat.le_refl _⟩, (MD HM).pick [0, 1]⟩
 case rest =>
  clear HC5 HM
  obtain ⟨kq, x18_4, rfl, HA, HJ4, HM⟩ := hcut
  cases kq with
  | zero => exact absurd HA.out (by simp [spec_CountOf.j0])
  | succ kj4 =>
   have H := HA.out
   clear HA
   simp only [spec_CountOf.j0] at H
   go_upto_if 18 with (fail)
   replace H := IB H
   rcases H with ⟨c12, H⟩ | ⟨c12, H⟩
   ·subst c12
    simp only [Option.some.injEq, Prod.mk.injEq] at H
    obtain ⟨rfl, rfl, rfl, rfl⟩ := H
    go_wp2_with (first | ((with_reducible refine gS 4 rfl ?_); refine pS 1 4 0 [.int .i64 0, .int .i64 0, .int .i64 0, .int .i64 0] HM rfl rfl ?_; clear HM; intro w13 HM))
    refine bodyPost_ret (results_cell_row rfl _ _ gb1401 35 #[.int .i64 0, .int .i64 0, .int .i64 0, .int .i64 0] (0, 0) _ rfl (HM.bx 1 rfl) Try.underlying35 rfl (by kernel_rfl)) rfl ?_
    exact ⟨ER, (MD HM).pick []⟩
   ·subst c12
    replace H := BN H; obtain ⟨⟨t1404, t1405, t1406, t1409, t1412, t1415, t1416, t1417, t1420, t1423⟩, A15, H⟩ := H
    have H' := Aside0.mk H
    clear H
    obtain ⟨_,_,_,_,_,_⟩ := bk3 (HM.bx 0 rfl)
    go_wp2_with (first | ((with_reducible refine gC 55 rfl ?_); refine pC (some 23) rfl #[.agg #[.int .i64 a0_0, .int .i64 a0_1, .int .i64 a0_2], .slice A1 l1.length c1] rfl Try.func55 (spec_l12Go.calls kj4 a0_0 a0_1 a0_2 _ _ l1 t1404 t1405 t1406 t1409 t1412 t1415 t1416 t1417 t1420 t1423 _ (HM.came HR1.out) HC1.out A15.out) ?_; rintro e w16 ⟨v1407, v1410, v1413, v1418, v1421, rfl, hR⟩; refine ⟨_, rfl, ?_⟩; replace HM := HM.call hR; clear hR) | ((with_reducible refine gN 5 rfl ?_); refine pB 5 85 [.int .i64 0, .int .i64 0, .slice none 0 0, .slice none 0 0, .slice none 0 0, .int .i64 0, .int .i64 0, .slice none 0 0] HM rfl ?_; clear HM; intro gb1424 w17 HM; obtain ⟨Xo18, ko18, rfl⟩ := HM.rdR 2 rfl; obtain ⟨Xo19, ko19, rfl⟩ := HM.rdR 3 rfl; obtain ⟨Xo20, ko20, rfl⟩ := HM.rd 4 rfl; obtain ⟨Xo21, ko21, rfl⟩ := HM.rdR 5 rfl) | ((with_reducible refine gS 5 rfl ?_); refine pS 7 5 0 [.int .i64 t1404, .int .i64 t1405, .slice Xo18 t1406.length ko18, .slice Xo19 t1409.length ko19, .slice Xo20 t1412.length ko20, .int .i64 t1415, .int .i64 t1416, .slice Xo21 t1417.length ko21] HM rfl rfl ?_; clear HM; intro w22 HM) | ((with_reducible refine gN 8 rfl ?_); refine pB 8 35 [.int .i64 0, .int .i64 0, .int .i64 0, .int .i64 0] HM rfl ?_; clear HM; intro gb1425 w23 HM) | ((with_reducible refine gS 8 rfl ?_); refine pS 8 8 0 [.int .i64 (l1.length : Int), .int .i64 0, .int .i64 0, .int .i64 t1423] HM rfl rfl ?_; clear HM; intro w24 HM; obtain ⟨Xo25, ko25, rfl⟩ := HM.rdR 6 rfl))
    go_loopg [33] kj4 (fun kq v33 w' => ∃ (x33_2 : Int) (x1426001_2 : Int) (x1426002_2 : Int), v33 = .int .i64 x33_2 ∧ Aside0 (spec_CountOf.l0 kq t1420 (t1420.length : Int) x33_2 (l1.length : Int) x1426001_2 x1426002_2 t1423 = some (r1, r2, r3, r4)) ∧ Aside0 (kq ≤ kj4) ∧ Mem w [] w' [rowR Kd.bool 4 (.slice Xo25 t1420.length ko25) t1420, rowR k67 67 (.slice Xo18 t1406.length ko18) t1406, rowR k67 67 (.slice Xo19 t1409.length ko19) t1409, row (Kd.int .i64) 3 (.slice Xo20 t1412.length ko20) t1412, rowR k67 67 (.slice Xo21 t1417.length ko21) t1417, box 31 gb1400 [.int .i64 a0_0, .int .i64 a0_1, .int .i64 a0_2], box 35 gb1401 [.int .i64 0, .int .i64 0, .int .i64 0, .int .i64 0], box 85 gb1424 [.int .i64 t1404, .int .i64 t1405, (.slice Xo18 t1406.length ko18), (.slice Xo19 t1409.length ko19), (.slice Xo20 t1412.length ko20), .int .i64 t1415, .int .i64 t1416, (.slice Xo21 t1417.length ko21)], box 35 gb1425 [.int .i64 (l1.length : Int), .int .i64 x1426001_2, .int .i64 x1426002_2, .int .i64 t1423]])
    case atStart => exact ⟨(0), (0), (0), RS, H', ⟨Nat.le_refl _⟩, (MD HM).pick [6, 2, 3, 4, 5, 0, 1, 7, 8]⟩
    case round =>
     clear H' HM
     obtain ⟨x33_2, x1426001_2, x1426002_2, rfl, HA, HK2, HM⟩ := hrel
     cases gk with
     | zero => exact absurd HA.out (by simp [spec_CountOf.l0])
     | succ k2 =>
      have H := HA.out
      clear HA
      simp only [spec_CountOf.l0] at H
      go_upto_if 34 with (fail)
      replace H := IT H; rcases H with ⟨c26, H⟩ | ⟨c26, H⟩
      ·have c26b0 : decide (x33_2 < (t1420.length : Int)) = true := decide_eq_true c26
       clear c26
       first|rw [c26b0]|(simp only [i64_w, i32_w]; rw [c26b0])|skip
       replace H := GD H; obtain ⟨c27, H⟩ := H
       have c27b0 : decide (0 ≤ x33_2) = true := decide_eq_true c27
       clear c27
       replace H := GD H; obtain ⟨c28, H⟩ := H
       have c28b0 : decide (x33_2 < (t1420.length : Int)) = true := decide_eq_true c28
       clear c28
       have p1426 : 0 ≤ (x33_2 : Int) := of_decide_eq_true AS
       have q1426 : (x33_2 : Int) < (t1420.length : Int) := of_decide_eq_true AS
       obtain ⟨ad1426, e1426, hx1426_0⟩ := Kd.at_bool (HM.CR 0 rfl).2.2 x33_2 p1426 q1426
       cases e1426
       replace p1426 := eq_true p1426
       replace q1426 := eq_true q1426
       go_upto_if 37 with (fail)
       replace H := IT H; rcases H with ⟨c29, H⟩ | ⟨c29, H⟩
       ·have c29b0 : rdOf false t1420 x33_2 = true := c29
        clear c29
        first|rw [c29b0]|(simp only [i64_w, i32_w]; rw [c29b0])|skip
        have H' := Aside0.mk H
        clear H
        obtain ⟨_,_,_,_,_,_,_,_⟩ := bk4 (HM.bx 8 rfl)
        go_wp2_with (first | ((with_reducible refine gS 41 rfl ?_); refine pS 8 41 1 [.int .i64 (wrap64 (x1426001_2 + 1))] HM rfl rfl ?_; clear HM; intro w31 HM))
        go_roundg k2
        case measure => have := HJ4.out; have := HK2.out; omega
        case rel => exact ⟨(wrap64 (x33_2 + 1)), (wrap64 (x1426001_2 + 1)), (x1426002_2), RS, H', ⟨by have := HJ4.out; have := HK2.out; omega⟩, (MD HM).pick [0, 1, 2, 3, 4, 5, 6, 7, 8]⟩
       ·have c29b0 : rdOf false t1420 x33_2 = false := by simpa using c29
        clear c29
        first|rw [c29b0]|(simp only [i64_w, i32_w]; rw [c29b0])|skip
        have H' := Aside0.mk H
        clear H
        obtain ⟨_,_,_,_,_,_,_,_⟩ := bk4 (HM.bx 8 rfl)
        go_wp2_with (first | ((with_reducible refine gS 45 rfl ?_); refine pS 8 45 2 [.int .i64 (wrap64 (x1426002_2 + 1))] HM rfl rfl ?_; clear HM; intro w33 HM))
        go_roundg k2
        case measure => have := HJ4.out; have := HK2.out; omega
        case rel => exact ⟨(wrap64 (x33_2 + 1)), (x1426001_2), (wrap64 (x1426002_2 + 1)), RS, H', ⟨by have := HJ4.out; have := HK2.out; omega⟩, (MD HM).pick [0, 1, 2, 3, 4, 5, 6, 7, 8]⟩
      ·have c26b0 : decide (x33_2 < (t1420.length : Int)) = false := decide_eq_false c26
       clear c26
       first|rw [c26b0]|(simp only [i64_w, i32_w]; rw [c26b0])|skip
       simp only [Option.some.injEq, Prod.mk.injEq] at H
       obtain ⟨rfl, rfl, rfl, rfl⟩ := H
       obtain ⟨_,_,_,_,_,_,_,_⟩ := bk4 (HM.bx 8 rfl)
       go_wp2_with (first | ((with_reducible refine gS 4 rfl ?_); refine pS 6 4 0 [.int .i64 (l1.length : Int), .int .i64 x1426001_2, .int .i64 x1426002_2, .int .i64 t1423] HM rfl rfl ?_; clear HM; intro w35 HM))
       refine bodyPost_ret (results_cell_row rfl _ _ gb1401 35 #[.int .i64 (l1.length : Int), .int .i64 x1426001_2, .int .i64 x1426002_2, .int .i64 t1423] (0, 0) _ rfl (HM.bx 6 rfl) Try.underlying35 rfl (by kernel_rfl)) rfl ?_
       exact ⟨ER, (MD HM).pick []⟩
def spec_Lab.l0 : Nat → List ByteArray → Int → List (S33) → Int → Option ((List (S33)))
 | 0, _, _, _, _ => none
 | k + 1, x0, x1, x5, x6 => if x6 ≤ 4 then (if x6 = 4 then (if (wrap64 (Int.tdiv x1 10)) < 1 then ((spec_CountOf.f k x6 x1 1 x0).bind fun bt1432 => ((spec_BestMisses.f k x0 x1).bind fun t1436 => (if x5.length < 3518437208883 then (spec_Lab.l0 k x0 x1 (x5 ++ [(⟨(⟨x6, x1, 1⟩ : S31), bt1432.2.2.1, t1436⟩ : S33)]) (wrap64 (x6 + 1))) else (none)))) else ((spec_CountOf.f k x6 x1 (wrap64 (Int.tdiv x1 10)) x0).bind fun bt1440 => ((spec_BestMisses.f k x0 x1).bind fun t1444 => (if x5.length < 3518437208883 then (spec_Lab.l0 k x0 x1 (x5 ++ [(⟨(⟨x6, x1, wrap64 (Int.tdiv x1 10)⟩ : S31), bt1440.2.2.1, t1444⟩ : S33)]) (wrap64 (x6 + 1))) else (none))))) else ((spec_CountOf.f k x6 x1 0 x0).bind fun bt1448 => ((spec_BestMisses.f k x0 x1).bind fun t1452 => (if x5.length < 3518437208883 then (spec_Lab.l0 k x0 x1 (x5 ++ [(⟨(⟨x6, x1, 0⟩ : S31), bt1448.2.2.1, t1452⟩ : S33)]) (wrap64 (x6 + 1))) else (none))))) else (some x5)
def spec_Lab.f (k : Nat) (l0 : List ByteArray) (a1 : Int) : Option ((List (S33))) := (some (([] : List (S33)) : List (S33))).bind fun y1427 => ((spec_l13Ok.f k l0 a1).bind fun t1430 => (if t1430 = true then (spec_Lab.l0 k l0 a1 y1427 1) else (some y1427)))
def spec_Lab.T12 : Bool × List (List Nat × List Nat) := (true, [([], []), ([], []), ([], []), ([], []), ([2, 3], [2, 3]), ([4], [4]), ([], []), ([], []), ([6, 7, 4], [6, 7]), ([1, 5, 8], [1, 5, 8]), ([9], [9]), ([0, 10, 8], [0, 10]), ([11, 11, 0, 1, 2, 3, 4, 5, 6, 7, 8, 9, 10, 11], [0, 11])])
def spec_Lab.B12 : List Nat := [0, 0, 0, 0, 12, 28, 0, 0, 220, 510, 1022, 2047, 4095]
theorem spec_Lab.tab12 : rtab .any (opsOf Try.f20 12) = spec_Lab.T12 := by kernel_rfl
theorem spec_Lab.bits12 : waitsOk spec_Lab.T12.2 spec_Lab.B12 = true := by kernel_rfl
theorem spec_Lab.calls (k : Nat) (A0 : Option Addr) (c0 : Nat) (l0 : List ByteArray) (a1 : Int) (r : List (S33)) (w : World) (hr0 : Kd.C Kd.string w A0 l0.length l0) (hc0 : l0.length ≤ c0) (h : spec_Lab.f k l0 a1 = some r) :
  Calls Try.prog 20 #[.slice A0 l0.length c0, .int .i64 a1] w fun e w' => ∃ v0_ : Value, e = .returned (v0_) ∧ Mem w [] w' [rowR k33 33 v0_ r] := by
 have hu31 := Try.underlying31
 have hfd35_2 : ∀ (x0 x1 x2 x3 : Value) (w : World), Sem.run Try.prog (Instr.field 35 (.agg #[x0, x1, x2, x3]) 2) w = .ok x2 w := fun _ _ _ _ _ => rfl
 have hu33 := Try.underlying33
 have HR0 := Aside0.mk hr0
 have HC0 := Aside0.mk hc0
 clear hr0 hc0
 have HM := Mem.nil w
 have H := h
 clear h
 unfold spec_Lab.f at H
 go_enter Try.func20, Try.ntmps20
 replace H := BLt H; obtain ⟨y1427, Ny1427, H⟩ := H
 replace Ny1427 := Aside0.mk Ny1427
 replace H := BN H; obtain ⟨t1430, A4, H⟩ := H
 go_upto_if 12 with (first | ((with_reducible refine gN 8 rfl ?_); refine pL 8 k33 33 ([] : List (S33)) [] (Reps.none _ _) HM rfl ?_; clear HM; intro v1428 w3 HM; replace HM := HM.nm 0 rfl Ny1427.out) | ((with_reducible refine gC 34 rfl ?_); refine pC (some 11) rfl #[.slice A0 l0.length c0, .int .i64 a1] rfl Try.func34 (spec_l13Ok.calls k _ _ l0 a1 t1430 _ (HM.came HR0.out) HC0.out A4.out) ?_; rintro e w5 ⟨rfl, hR⟩; refine ⟨_, rfl, ?_⟩; replace HM := HM.call hR; clear hR))
 replace H := IB H
 rcases H with ⟨c6, H⟩ | ⟨c6, H⟩
 ·subst c6
  have H' := Aside0.mk H
  clear H
  go_wp2
  go_loopg [5, 6] k (fun kq v5 v6 w' => ∃ (x5_1 : List (S33)) (x6_1 : Int), v6 = .int .i64 x6_1 ∧ Aside0 (spec_Lab.l0 kq l0 a1 x5_1 x6_1 = some r) ∧ Aside0 (kq ≤ k) ∧ Mem w [] w' [rowR k33 33 v5 x5_1])
  case atStart => exact ⟨(y1427), (1), RS, H', ⟨Nat.le_refl _⟩, (MD HM).pick [0]⟩
  case round =>
   clear H' HM
   obtain ⟨x5_1, x6_1, rfl, HA, HK1, HM⟩ := hrel
   cases gk with
   | zero => exact absurd HA.out (by simp [spec_Lab.l0])
   | succ k1 =>
    have H := HA.out
    clear HA
    simp only [spec_Lab.l0] at H
    go_upto_if 15 with (fail)
    replace H := IT H; rcases H with ⟨c7, H⟩ | ⟨c7, H⟩
    ·have c7b0 := decide_eq_true c7
     clear c7
     first|rw [c7b0]|(simp only [i64_w, i32_w]; rw [c7b0])|skip
     go_upto_if 22 with (first | ((with_reducible refine gN 7 rfl ?_); refine pB 7 31 [.int .i64 0, .int .i64 0, .int .i64 0] HM rfl ?_; clear HM; intro gb1431 w8 HM) | ((with_reducible refine gS 7 rfl ?_); refine pS 1 7 0 [.int .i64 x6_1, .int .i64 a1, .int .i64 0] HM rfl rfl ?_; clear HM; intro w9 HM))
     replace HM := nzM HM
     replace H := IT H; rcases H with ⟨c10, H⟩ | ⟨c10, H⟩
     ·obtain ⟨c10b0, c10b1⟩ := BE c10
      clear c10
      first|rw [c10b0]|(simp only [i64_w, i32_w]; rw [c10b0])|skip
      go_upto_if 28 with (first | ((with_reducible refine gS 25 rfl ?_); refine pS 1 25 2 [.int .i64 (wrap64 (Int.tdiv a1 10))] HM rfl rfl ?_; clear HM; intro w11 HM; obtain ⟨_,_,_,_,_,_⟩ := bk3 (HM.bx 1 rfl)))
      replace H := IT H; rcases H with ⟨c13, H⟩ | ⟨c13, H⟩
      ·have c13b0 := decide_eq_true c13
       clear c13
       first|rw [c13b0]|(simp only [i64_w, i32_w]; rw [c13b0])|skip
       try go_wp2_with (first | ((with_reducible refine gS 29 rfl ?_); refine pS 1 29 2 [.int .i64 1] HM rfl rfl ?_; clear HM; intro w14 HM))
       replace H := BN H; obtain ⟨⟨t1432, t1433, t1434, t1435⟩, A15, H⟩ := H
       replace H := BN H; obtain ⟨t1436, A16, H⟩ := H
       replace H := GD H; obtain ⟨c17, H⟩ := H
       have LMc17 := Aside0.mk c17
       clear c17
       obtain ⟨Xo26, ko26, rfl⟩ := HM.rdR 0 rfl
       refine RGN 13 [0, 1, 2, 3, 4, 5, 6, 7, 8, 9, 10, 11, 12] (fun a0 b a w' => ∃ (v23 : Value) (v1438 : Value), a = putSel a0 b [(0, 30, .slice Xo26 x5_1.length ko26), (1, 31, .agg #[.int .i64 x6_1, .int .i64 a1, .int .i64 1]), (2, 32, .agg #[.int .i64 x6_1, .int .i64 a1, .int .i64 1]), (3, 33, .slice A0 l0.length c0), (4, 34, .agg #[.int .i64 t1432, .int .i64 t1433, .int .i64 t1434, .int .i64 t1435]), (5, 35, .int .i64 t1434), (6, 36, .slice A0 l0.length c0), (7, 37, .int .i64 a1), (8, 38, .int .i64 t1436), (9, 39, .agg #[.int .i64 x6_1, .int .i64 a1, .int .i64 1, .int .i64 t1434, .int .i64 t1436]), (10, 40, v23), (11, 41, v1438), (12, 5, v1438)] ∧ Mem w [] w' [sel (b 11) (rowR k33 33 v1438 (x5_1 ++ [(⟨(⟨x6_1, a1, 1⟩ : S31), t1434, t1436⟩ : S33)])) (rowR k33 33 (.slice Xo26 x5_1.length ko26) x5_1), box 31 gb1431 [.int .i64 x6_1, .int .i64 a1, .int .i64 1], sel (b 10) (rowR k33 33 v23 [(⟨(⟨x6_1, a1, 1⟩ : S31), t1434, t1436⟩ : S33)]) (emp)]) spec_Lab.tab12 spec_Lab.bits12 ?_ ?_ ?_
       ·exact ⟨.bool false, .bool false, PS0' rfl _, (HM.drew.ems 1).pick [0, 1, 2]⟩
       ·clear HM
        refine SZ ?_ ?_
        ·rintro b a w ⟨v23, v1438, ha, HM⟩ hb hon hoff K hK
         replace ha := Aside0.mk ha
         have e5 := PH ha 5 (hoff 12 rfl)
         exact VL (.slice Xo26 x5_1.length ko26) (hK.out _ _ ⟨v23, v1438, PUT ha 0 hb, HM⟩)
        refine SZ ?_ ?_
        ·rintro b a w ⟨v23, v1438, ha, HM⟩ hb hon hoff K hK
         replace ha := Aside0.mk ha
         obtain ⟨_,_,_,_,_,_⟩ := bk3 (HM.bx 1 rfl)
         have e7 := PG ha 7
         exact VL (.agg #[.int .i64 x6_1, .int .i64 a1, .int .i64 1]) (hK.out _ _ ⟨v23, v1438, PUT ha 1 hb, HM⟩)
        refine SZ ?_ ?_
        ·rintro b a w ⟨v23, v1438, ha, HM⟩ hb hon hoff K hK
         replace ha := Aside0.mk ha
         obtain ⟨_,_,_,_,_,_⟩ := bk3 (HM.bx 1 rfl)
         have e7 := PG ha 7
         exact VL (.agg #[.int .i64 x6_1, .int .i64 a1, .int .i64 1]) (hK.out _ _ ⟨v23, v1438, PUT ha 2 hb, HM⟩)
        refine SZ ?_ ?_
        ·rintro b a w ⟨v23, v1438, ha, HM⟩ hb hon hoff K hK
         replace ha := Aside0.mk ha
         have e0 := PG ha 0
         exact VL (.slice A0 l0.length c0) (hK.out _ _ ⟨v23, v1438, PUT ha 3 hb, HM⟩)
        refine SZ ?_ ?_
        ·rintro b a w ⟨v23, v1438, ha, HM⟩ hb hon hoff K hK
         replace ha := Aside0.mk ha
         have e32 := PE ha 2 hon
         have e33 := PE ha 3 hon
         refine ST (eC (some 34) rfl #[.agg #[.int .i64 x6_1, .int .i64 a1, .int .i64 1], .slice A0 l0.length c0] rfl Try.func38 (spec_CountOf.calls k1 x6_1 a1 1 _ _ l0 t1432 t1433 t1434 t1435 _ (HM.came HR0.out) HC0.out A15.out) ?_ (hargs := by (simp only [List.map_toArray, List.map_cons, List.map_nil, evc, eval_of e32, eval_of e33]) <;> rfl))
         rintro e w29 ⟨rfl, hR⟩
         refine ⟨_, rfl, ?_⟩
         replace HM := HM.call hR
         clear hR
         exact hK.out _ _ ⟨v23, v1438, PUT ha 4 hb, (HM).pick [0, 1, 2]⟩
        refine SZ ?_ ?_
        ·rintro b a w ⟨v23, v1438, ha, HM⟩ hb hon hoff K hK
         replace ha := Aside0.mk ha
         have e34 := PE ha 4 hon
         exact VL (.int .i64 t1434) (hK.out _ _ ⟨v23, v1438, PUT ha 5 hb, HM⟩)
        refine SZ ?_ ?_
        ·rintro b a w ⟨v23, v1438, ha, HM⟩ hb hon hoff K hK
         replace ha := Aside0.mk ha
         have e0 := PG ha 0
         exact VL (.slice A0 l0.length c0) (hK.out _ _ ⟨v23, v1438, PUT ha 6 hb, HM⟩)
        refine SZ ?_ ?_
        ·rintro b a w ⟨v23, v1438, ha, HM⟩ hb hon hoff K hK
         replace ha := Aside0.mk ha
         have e1 := PG ha 1
         exact VL (.int .i64 a1) (hK.out _ _ ⟨v23, v1438, PUT ha 7 hb, HM⟩)
        refine SZ ?_ ?_
        ·rintro b a w ⟨v23, v1438, ha, HM⟩ hb hon hoff K hK
         replace ha := Aside0.mk ha
         have e36 := PE ha 6 hon
         have e37 := PE ha 7 hon
         refine ST (eC (some 38) rfl #[.slice A0 l0.length c0, .int .i64 a1] rfl Try.func36 (spec_BestMisses.calls k1 _ _ l0 a1 t1436 _ (HM.came HR0.out) HC0.out A16.out) ?_ (hargs := by (simp only [List.map_toArray, List.map_cons, List.map_nil, evc, eval_of e36, eval_of e37]) <;> rfl))
         rintro e w30 ⟨rfl, hR⟩
         refine ⟨_, rfl, ?_⟩
         replace HM := HM.call hR
         clear hR
         exact hK.out _ _ ⟨v23, v1438, PUT ha 8 hb, (HM).pick [0, 1, 2]⟩
        refine SZ ?_ ?_
        ·rintro b a w ⟨v23, v1438, ha, HM⟩ hb hon hoff K hK
         replace ha := Aside0.mk ha
         have e31 := PE ha 1 hon
         have e35 := PE ha 5 hon
         have e38 := PE ha 8 hon
         exact VL (.agg #[.int .i64 x6_1, .int .i64 a1, .int .i64 1, .int .i64 t1434, .int .i64 t1436]) (hK.out _ _ ⟨v23, v1438, PUT ha 9 hb, HM⟩)
        refine SZ ?_ ?_
        ·rintro b a w ⟨v23, v1438, ha, HM⟩ hb hon hoff K hK
         replace ha := Aside0.mk ha
         have e39 := PE ha 9 hon
         refine ST (eL 40 k33 33 [(⟨(⟨x6_1, a1, 1⟩ : S31), t1434, t1436⟩ : S33)] [.int .i64 x6_1, .int .i64 a1, .int .i64 1, .int .i64 t1434, .int .i64 t1436] (Reps.c5 (show Kd.M k33 _ _ _ (⟨(⟨x6_1, a1, 1⟩ : S31), t1434, t1436⟩ : S33) [.int .i64 x6_1, .int .i64 a1, .int .i64 1, .int .i64 t1434, .int .i64 t1436] from (k33_mkM _ _ _ (⟨(⟨x6_1, a1, 1⟩ : S31), t1434, t1436⟩ : S33))) (Reps.none _ _)) HM rfl ?_)
         clear HM
         intro v23 w31 HM
         exact hK.out _ _ ⟨v23, v1438, PUT ha 10 hb, (HM).pick [0, 1, 3]⟩
        refine SZ ?_ ?_
        ·rintro b a w ⟨v23, v1438, ha, HM⟩ hb hon hoff K hK
         replace ha := Aside0.mk ha
         replace HM := HM.sF 0 rfl hb
         replace HM := HM.sT 2 rfl (hon 10 rfl)
         obtain ⟨Xo32, ko32, rfl⟩ := HM.rdR 2 rfl
         have e30 := PE ha 0 hon
         have e40 := PE ha 10 hon
         refine ST (eA 0 (.tmp 30) (.tmp 40) 26 33 k33 (.slice Xo26 x5_1.length ko26) x5_1 [(⟨(⟨x6_1, a1, 1⟩ : S31), t1434, t1436⟩ : S33)] Xo32 ([(⟨(⟨x6_1, a1, 1⟩ : S31), t1434, t1436⟩ : S33)].length) ko32 HM rfl Try.underlying26 info33 rfl (HM.CR 2 rfl).2.2 (by have h_ := LMc17.out; simp only [List.length_singleton]; omega) ?_ (ops := #[]) (hw := by rfl) (hs := (eval_of e30)) (hx := (eval_of e40)))
         clear HM
         intro v1438 w33 HM
         exact hK.out _ _ ⟨.slice Xo32 [(⟨(⟨x6_1, a1, 1⟩ : S31), t1434, t1436⟩ : S33)].length ko32, v1438, PUT (PCH ha 12 (hoff 12 rfl)) 11 hb, (HM.iT 2 rfl (hon 10 rfl)).pick [0, 1, 2]⟩
        refine SZ ?_ ?_
        ·rintro b a w ⟨v23, v1438, ha, HM⟩ hb hon hoff K hK
         replace ha := Aside0.mk ha
         have e41 := PE ha 11 hon
         exact VL (v1438) (hK.out _ _ ⟨v23, v1438, PUT ha 12 hb, HM⟩)
        exact steps_nil
       rintro _ w34 ⟨v23, v1438, rfl, HM⟩
       replace HM := HM.sT 0 rfl rfl
       replace HM := HM.sT 2 rfl rfl
       simp only [putSel, if_true, Act.put, List.setIfInBounds_toArray, List.set_cons_zero, List.set_cons_succ, gt_iff_lt, ge_iff_le]
       have H' := Aside0.mk H
       clear H
       go_wp2
       go_roundg k1
       case measure => have := HK1.out; omega
       case rel => exact ⟨((x5_1 ++ [(⟨(⟨x6_1, a1, 1⟩ : S31), t1434, t1436⟩ : S33)])), (wrap64 (x6_1 + 1)), RS, H', ⟨by have := HK1.out; omega⟩, (MD HM).pick [0]⟩
      ·have c13b0 : decide ((wrap64 (Int.tdiv a1 10)) < 1) = false := decide_eq_false c13
       clear c13
       first|rw [c13b0]|(simp only [i64_w, i32_w]; rw [c13b0])|skip
       try go_wp2
       replace H := BN H; obtain ⟨⟨t1440, t1441, t1442, t1443⟩, A35, H⟩ := H
       replace H := BN H; obtain ⟨t1444, A36, H⟩ := H
       replace H := GD H; obtain ⟨c37, H⟩ := H
       have LMc37 := Aside0.mk c37
       clear c37
       obtain ⟨Xo46, ko46, rfl⟩ := HM.rdR 0 rfl
       refine RGN 13 [0, 1, 2, 3, 4, 5, 6, 7, 8, 9, 10, 11, 12] (fun a0 b a w' => ∃ (v43 : Value) (v1446 : Value), a = putSel a0 b [(0, 30, .slice Xo46 x5_1.length ko46), (1, 31, .agg #[.int .i64 x6_1, .int .i64 a1, .int .i64 (wrap64 (Int.tdiv a1 10))]), (2, 32, .agg #[.int .i64 x6_1, .int .i64 a1, .int .i64 (wrap64 (Int.tdiv a1 10))]), (3, 33, .slice A0 l0.length c0), (4, 34, .agg #[.int .i64 t1440, .int .i64 t1441, .int .i64 t1442, .int .i64 t1443]), (5, 35, .int .i64 t1442), (6, 36, .slice A0 l0.length c0), (7, 37, .int .i64 a1), (8, 38, .int .i64 t1444), (9, 39, .agg #[.int .i64 x6_1, .int .i64 a1, .int .i64 (wrap64 (Int.tdiv a1 10)), .int .i64 t1442, .int .i64 t1444]), (10, 40, v43), (11, 41, v1446), (12, 5, v1446)] ∧ Mem w [] w' [sel (b 11) (rowR k33 33 v1446 (x5_1 ++ [(⟨(⟨x6_1, a1, wrap64 (Int.tdiv a1 10)⟩ : S31), t1442, t1444⟩ : S33)])) (rowR k33 33 (.slice Xo46 x5_1.length ko46) x5_1), box 31 gb1431 [.int .i64 x6_1, .int .i64 a1, .int .i64 (wrap64 (Int.tdiv a1 10))], sel (b 10) (rowR k33 33 v43 [(⟨(⟨x6_1, a1, wrap64 (Int.tdiv a1 10)⟩ : S31), t1442, t1444⟩ : S33)]) (emp)]) spec_Lab.tab12 spec_Lab.bits12 ?_ ?_ ?_
       ·exact ⟨.bool false, .bool false, PS0' rfl _, (HM.drew.ems 1).pick [0, 1, 2]⟩
       ·clear HM
        refine SZ ?_ ?_
        ·rintro b a w ⟨v43, v1446, ha, HM⟩ hb hon hoff K hK
         replace ha := Aside0.mk ha
         have e5 := PH ha 5 (hoff 12 rfl)
         exact VL (.slice Xo46 x5_1.length ko46) (hK.out _ _ ⟨v43, v1446, PUT ha 0 hb, HM⟩)
        refine SZ ?_ ?_
        ·rintro b a w ⟨v43, v1446, ha, HM⟩ hb hon hoff K hK
         replace ha := Aside0.mk ha
         obtain ⟨_,_,_,_,_,_⟩ := bk3 (HM.bx 1 rfl)
         have e7 := PG ha 7
         exact VL (.agg #[.int .i64 x6_1, .int .i64 a1, .int .i64 (wrap64 (Int.tdiv a1 10))]) (hK.out _ _ ⟨v43, v1446, PUT ha 1 hb, HM⟩)
        refine SZ ?_ ?_
        ·rintro b a w ⟨v43, v1446, ha, HM⟩ hb hon hoff K hK
         replace ha := Aside0.mk ha
         obtain ⟨_,_,_,_,_,_⟩ := bk3 (HM.bx 1 rfl)
         have e7 := PG ha 7
         exact VL (.agg #[.int .i64 x6_1, .int .i64 a1, .int .i64 (wrap64 (Int.tdiv a1 10))]) (hK.out _ _ ⟨v43, v1446, PUT ha 2 hb, HM⟩)
        refine SZ ?_ ?_
        ·rintro b a w ⟨v43, v1446, ha, HM⟩ hb hon hoff K hK
         replace ha := Aside0.mk ha
         have e0 := PG ha 0
         exact VL (.slice A0 l0.length c0) (hK.out _ _ ⟨v43, v1446, PUT ha 3 hb, HM⟩)
        refine SZ ?_ ?_
        ·rintro b a w ⟨v43, v1446, ha, HM⟩ hb hon hoff K hK
         replace ha := Aside0.mk ha
         have e32 := PE ha 2 hon
         have e33 := PE ha 3 hon
         refine ST (eC (some 34) rfl #[.agg #[.int .i64 x6_1, .int .i64 a1, .int .i64 (wrap64 (Int.tdiv a1 10))], .slice A0 l0.length c0] rfl Try.func38 (spec_CountOf.calls k1 x6_1 a1 (wrap64 (Int.tdiv a1 10)) _ _ l0 t1440 t1441 t1442 t1443 _ (HM.came HR0.out) HC0.out A35.out) ?_ (hargs := by (simp only [List.map_toArray, List.map_cons, List.map_nil, evc, eval_of e32, eval_of e33]) <;> rfl))
         rintro e w49 ⟨rfl, hR⟩
         refine ⟨_, rfl, ?_⟩
         replace HM := HM.call hR
         clear hR
         exact hK.out _ _ ⟨v43, v1446, PUT ha 4 hb, (HM).pick [0, 1, 2]⟩
        refine SZ ?_ ?_
        ·rintro b a w ⟨v43, v1446, ha, HM⟩ hb hon hoff K hK
         replace ha := Aside0.mk ha
         have e34 := PE ha 4 hon
         exact VL (.int .i64 t1442) (hK.out _ _ ⟨v43, v1446, PUT ha 5 hb, HM⟩)
        refine SZ ?_ ?_
        ·rintro b a w ⟨v43, v1446, ha, HM⟩ hb hon hoff K hK
         replace ha := Aside0.mk ha
         have e0 := PG ha 0
         exact VL (.slice A0 l0.length c0) (hK.out _ _ ⟨v43, v1446, PUT ha 6 hb, HM⟩)
        refine SZ ?_ ?_
        ·rintro b a w ⟨v43, v1446, ha, HM⟩ hb hon hoff K hK
         replace ha := Aside0.mk ha
         have e1 := PG ha 1
         exact VL (.int .i64 a1) (hK.out _ _ ⟨v43, v1446, PUT ha 7 hb, HM⟩)
        refine SZ ?_ ?_
        ·rintro b a w ⟨v43, v1446, ha, HM⟩ hb hon hoff K hK
         replace ha := Aside0.mk ha
         have e36 := PE ha 6 hon
         have e37 := PE ha 7 hon
         refine ST (eC (some 38) rfl #[.slice A0 l0.length c0, .int .i64 a1] rfl Try.func36 (spec_BestMisses.calls k1 _ _ l0 a1 t1444 _ (HM.came HR0.out) HC0.out A36.out) ?_ (hargs := by (simp only [List.map_toArray, List.map_cons, List.map_nil, evc, eval_of e36, eval_of e37]) <;> rfl))
         rintro e w50 ⟨rfl, hR⟩
         refine ⟨_, rfl, ?_⟩
         replace HM := HM.call hR
         clear hR
         exact hK.out _ _ ⟨v43, v1446, PUT ha 8 hb, (HM).pick [0, 1, 2]⟩
        refine SZ ?_ ?_
        ·rintro b a w ⟨v43, v1446, ha, HM⟩ hb hon hoff K hK
         replace ha := Aside0.mk ha
         have e31 := PE ha 1 hon
         have e35 := PE ha 5 hon
         have e38 := PE ha 8 hon
         exact VL (.agg #[.int .i64 x6_1, .int .i64 a1, .int .i64 (wrap64 (Int.tdiv a1 10)), .int .i64 t1442, .int .i64 t1444]) (hK.out _ _ ⟨v43, v1446, PUT ha 9 hb, HM⟩)
        refine SZ ?_ ?_
        ·rintro b a w ⟨v43, v1446, ha, HM⟩ hb hon hoff K hK
         replace ha := Aside0.mk ha
         have e39 := PE ha 9 hon
         refine ST (eL 40 k33 33 [(⟨(⟨x6_1, a1, wrap64 (Int.tdiv a1 10)⟩ : S31), t1442, t1444⟩ : S33)] [.int .i64 x6_1, .int .i64 a1, .int .i64 (wrap64 (Int.tdiv a1 10)), .int .i64 t1442, .int .i64 t1444] (Reps.c5 (show Kd.M k33 _ _ _ (⟨(⟨x6_1, a1, wrap64 (Int.tdiv a1 10)⟩ : S31), t1442, t1444⟩ : S33) [.int .i64 x6_1, .int .i64 a1, .int .i64 (wrap64 (Int.tdiv a1 10)), .int .i64 t1442, .int .i64 t1444] from (k33_mkM _ _ _ (⟨(⟨x6_1, a1, wrap64 (Int.tdiv a1 10)⟩ : S31), t1442, t1444⟩ : S33))) (Reps.none _ _)) HM rfl ?_)
         clear HM
         intro v43 w51 HM
         exact hK.out _ _ ⟨v43, v1446, PUT ha 10 hb, (HM).pick [0, 1, 3]⟩
        refine SZ ?_ ?_
        ·rintro b a w ⟨v43, v1446, ha, HM⟩ hb hon hoff K hK
         replace ha := Aside0.mk ha
         replace HM := HM.sF 0 rfl hb
         replace HM := HM.sT 2 rfl (hon 10 rfl)
         obtain ⟨Xo52, ko52, rfl⟩ := HM.rdR 2 rfl
         have e30 := PE ha 0 hon
         have e40 := PE ha 10 hon
         refine ST (eA 0 (.tmp 30) (.tmp 40) 26 33 k33 (.slice Xo46 x5_1.length ko46) x5_1 [(⟨(⟨x6_1, a1, wrap64 (Int.tdiv a1 10)⟩ : S31), t1442, t1444⟩ : S33)] Xo52 ([(⟨(⟨x6_1, a1, wrap64 (Int.tdiv a1 10)⟩ : S31), t1442, t1444⟩ : S33)].length) ko52 HM rfl Try.underlying26 info33 rfl (HM.CR 2 rfl).2.2 (by have h_ := LMc37.out; simp only [List.length_singleton]; omega) ?_ (ops := #[]) (hw := by rfl) (hs := (eval_of e30)) (hx := (eval_of e40)))
         clear HM
         intro v1446 w53 HM
         exact hK.out _ _ ⟨.slice Xo52 [(⟨(⟨x6_1, a1, wrap64 (Int.tdiv a1 10)⟩ : S31), t1442, t1444⟩ : S33)].length ko52, v1446, PUT (PCH ha 12 (hoff 12 rfl)) 11 hb, (HM.iT 2 rfl (hon 10 rfl)).pick [0, 1, 2]⟩
        refine SZ ?_ ?_
        ·rintro b a w ⟨v43, v1446, ha, HM⟩ hb hon hoff K hK
         replace ha := Aside0.mk ha
         have e41 := PE ha 11 hon
         exact VL (v1446) (hK.out _ _ ⟨v43, v1446, PUT ha 12 hb, HM⟩)
        exact steps_nil
       rintro _ w54 ⟨v43, v1446, rfl, HM⟩
       replace HM := HM.sT 0 rfl rfl
       replace HM := HM.sT 2 rfl rfl
       simp only [putSel, if_true, Act.put, List.setIfInBounds_toArray, List.set_cons_zero, List.set_cons_succ, gt_iff_lt, ge_iff_le]
       have H' := Aside0.mk H
       clear H
       go_wp2
       go_roundg k1
       case measure => have := HK1.out; omega
       case rel => exact ⟨((x5_1 ++ [(⟨(⟨x6_1, a1, wrap64 (Int.tdiv a1 10)⟩ : S31), t1442, t1444⟩ : S33)])), (wrap64 (x6_1 + 1)), RS, H', ⟨by have := HK1.out; omega⟩, (MD HM).pick [0]⟩
     ·have c10b0 : (x6_1 == 4) = false := beq_eq_false_iff_ne.mpr c10
      have c10b1 : (x6_1 != 4) = true := bne_iff_ne.mpr c10
      first|rw [c10b0]|(simp only [i64_w, i32_w]; rw [c10b0])|skip
      try go_wp2
      replace H := BN H; obtain ⟨⟨t1448, t1449, t1450, t1451⟩, A55, H⟩ := H
      replace H := BN H; obtain ⟨t1452, A56, H⟩ := H
      replace H := GD H; obtain ⟨c57, H⟩ := H
      have LMc57 := Aside0.mk c57
      clear c57
      obtain ⟨Xo66, ko66, rfl⟩ := HM.rdR 0 rfl
      refine RGN 13 [0, 1, 2, 3, 4, 5, 6, 7, 8, 9, 10, 11, 12] (fun a0 b a w' => ∃ (v63 : Value) (v1454 : Value), a = putSel a0 b [(0, 30, .slice Xo66 x5_1.length ko66), (1, 31, .agg #[.int .i64 x6_1, .int .i64 a1, .int .i64 0]), (2, 32, .agg #[.int .i64 x6_1, .int .i64 a1, .int .i64 0]), (3, 33, .slice A0 l0.length c0), (4, 34, .agg #[.int .i64 t1448, .int .i64 t1449, .int .i64 t1450, .int .i64 t1451]), (5, 35, .int .i64 t1450), (6, 36, .slice A0 l0.length c0), (7, 37, .int .i64 a1), (8, 38, .int .i64 t1452), (9, 39, .agg #[.int .i64 x6_1, .int .i64 a1, .int .i64 0, .int .i64 t1450, .int .i64 t1452]), (10, 40, v63), (11, 41, v1454), (12, 5, v1454)] ∧ Mem w [] w' [sel (b 11) (rowR k33 33 v1454 (x5_1 ++ [(⟨(⟨x6_1, a1, 0⟩ : S31), t1450, t1452⟩ : S33)])) (rowR k33 33 (.slice Xo66 x5_1.length ko66) x5_1), box 31 gb1431 [.int .i64 x6_1, .int .i64 a1, .int .i64 0], sel (b 10) (rowR k33 33 v63 [(⟨(⟨x6_1, a1, 0⟩ : S31), t1450, t1452⟩ : S33)]) (emp)]) spec_Lab.tab12 spec_Lab.bits12 ?_ ?_ ?_
      ·exact ⟨.bool false, .bool false, PS0' rfl _, (HM.drew.ems 1).pick [0, 1, 2]⟩
      ·clear HM
       refine SZ ?_ ?_
       ·rintro b a w ⟨v63, v1454, ha, HM⟩ hb hon hoff K hK
        replace ha := Aside0.mk ha
        have e5 := PH ha 5 (hoff 12 rfl)
        exact VL (.slice Xo66 x5_1.length ko66) (hK.out _ _ ⟨v63, v1454, PUT ha 0 hb, HM⟩)
       refine SZ ?_ ?_
       ·rintro b a w ⟨v63, v1454, ha, HM⟩ hb hon hoff K hK
        replace ha := Aside0.mk ha
        obtain ⟨_,_,_,_,_,_⟩ := bk3 (HM.bx 1 rfl)
        have e7 := PG ha 7
        exact VL (.agg #[.int .i64 x6_1, .int .i64 a1, .int .i64 0]) (hK.out _ _ ⟨v63, v1454, PUT ha 1 hb, HM⟩)
       refine SZ ?_ ?_
       ·rintro b a w ⟨v63, v1454, ha, HM⟩ hb hon hoff K hK
        replace ha := Aside0.mk ha
        obtain ⟨_,_,_,_,_,_⟩ := bk3 (HM.bx 1 rfl)
        have e7 := PG ha 7
        exact VL (.agg #[.int .i64 x6_1, .int .i64 a1, .int .i64 0]) (hK.out _ _ ⟨v63, v1454, PUT ha 2 hb, HM⟩)
       refine SZ ?_ ?_
       ·rintro b a w ⟨v63, v1454, ha, HM⟩ hb hon hoff K hK
        replace ha := Aside0.mk ha
        have e0 := PG ha 0
        exact VL (.slice A0 l0.length c0) (hK.out _ _ ⟨v63, v1454, PUT ha 3 hb, HM⟩)
       refine SZ ?_ ?_
       ·rintro b a w ⟨v63, v1454, ha, HM⟩ hb hon hoff K hK
        replace ha := Aside0.mk ha
        have e32 := PE ha 2 hon
        have e33 := PE ha 3 hon
        refine ST (eC (some 34) rfl #[.agg #[.int .i64 x6_1, .int .i64 a1, .int .i64 0], .slice A0 l0.length c0] rfl Try.func38 (spec_CountOf.calls k1 x6_1 a1 0 _ _ l0 t1448 t1449 t1450 t1451 _ (HM.came HR0.out) HC0.out A55.out) ?_ (hargs := by (simp only [List.map_toArray, List.map_cons, List.map_nil, evc, eval_of e32, eval_of e33]) <;> rfl))
        rintro e w69 ⟨rfl, hR⟩
        refine ⟨_, rfl, ?_⟩
        replace HM := HM.call hR
        clear hR
        exact hK.out _ _ ⟨v63, v1454, PUT ha 4 hb, (HM).pick [0, 1, 2]⟩
       refine SZ ?_ ?_
       ·rintro b a w ⟨v63, v1454, ha, HM⟩ hb hon hoff K hK
        replace ha := Aside0.mk ha
        have e34 := PE ha 4 hon
        exact VL (.int .i64 t1450) (hK.out _ _ ⟨v63, v1454, PUT ha 5 hb, HM⟩)
       refine SZ ?_ ?_
       ·rintro b a w ⟨v63, v1454, ha, HM⟩ hb hon hoff K hK
        replace ha := Aside0.mk ha
        have e0 := PG ha 0
        exact VL (.slice A0 l0.length c0) (hK.out _ _ ⟨v63, v1454, PUT ha 6 hb, HM⟩)
       refine SZ ?_ ?_
       ·rintro b a w ⟨v63, v1454, ha, HM⟩ hb hon hoff K hK
        replace ha := Aside0.mk ha
        have e1 := PG ha 1
        exact VL (.int .i64 a1) (hK.out _ _ ⟨v63, v1454, PUT ha 7 hb, HM⟩)
       refine SZ ?_ ?_
       ·rintro b a w ⟨v63, v1454, ha, HM⟩ hb hon hoff K hK
        replace ha := Aside0.mk ha
        have e36 := PE ha 6 hon
        have e37 := PE ha 7 hon
        refine ST (eC (some 38) rfl #[.slice A0 l0.length c0, .int .i64 a1] rfl Try.func36 (spec_BestMisses.calls k1 _ _ l0 a1 t1452 _ (HM.came HR0.out) HC0.out A56.out) ?_ (hargs := by (simp only [List.map_toArray, List.map_cons, List.map_nil, evc, eval_of e36, eval_of e37]) <;> rfl))
        rintro e w70 ⟨rfl, hR⟩
        refine ⟨_, rfl, ?_⟩
        replace HM := HM.call hR
        clear hR
        exact hK.out _ _ ⟨v63, v1454, PUT ha 8 hb, (HM).pick [0, 1, 2]⟩
       refine SZ ?_ ?_
       ·rintro b a w ⟨v63, v1454, ha, HM⟩ hb hon hoff K hK
        replace ha := Aside0.mk ha
        have e31 := PE ha 1 hon
        have e35 := PE ha 5 hon
        have e38 := PE ha 8 hon
        exact VL (.agg #[.int .i64 x6_1, .int .i64 a1, .int .i64 0, .int .i64 t1450, .int .i64 t1452]) (hK.out _ _ ⟨v63, v1454, PUT ha 9 hb, HM⟩)
       refine SZ ?_ ?_
       ·rintro b a w ⟨v63, v1454, ha, HM⟩ hb hon hoff K hK
        replace ha := Aside0.mk ha
        have e39 := PE ha 9 hon
        refine ST (eL 40 k33 33 [(⟨(⟨x6_1, a1, 0⟩ : S31), t1450, t1452⟩ : S33)] [.int .i64 x6_1, .int .i64 a1, .int .i64 0, .int .i64 t1450, .int .i64 t1452] (Reps.c5 (show Kd.M k33 _ _ _ (⟨(⟨x6_1, a1, 0⟩ : S31), t1450, t1452⟩ : S33) [.int .i64 x6_1, .int .i64 a1, .int .i64 0, .int .i64 t1450, .int .i64 t1452] from (k33_mkM _ _ _ (⟨(⟨x6_1, a1, 0⟩ : S31), t1450, t1452⟩ : S33))) (Reps.none _ _)) HM rfl ?_)
        clear HM
        intro v63 w71 HM
        exact hK.out _ _ ⟨v63, v1454, PUT ha 10 hb, (HM).pick [0, 1, 3]⟩
       refine SZ ?_ ?_
       ·rintro b a w ⟨v63, v1454, ha, HM⟩ hb hon hoff K hK
        replace ha := Aside0.mk ha
        replace HM := HM.sF 0 rfl hb
        replace HM := HM.sT 2 rfl (hon 10 rfl)
        obtain ⟨Xo72, ko72, rfl⟩ := HM.rdR 2 rfl
        have e30 := PE ha 0 hon
        have e40 := PE ha 10 hon
        refine ST (eA 0 (.tmp 30) (.tmp 40) 26 33 k33 (.slice Xo66 x5_1.length ko66) x5_1 [(⟨(⟨x6_1, a1, 0⟩ : S31), t1450, t1452⟩ : S33)] Xo72 ([(⟨(⟨x6_1, a1, 0⟩ : S31), t1450, t1452⟩ : S33)].length) ko72 HM rfl Try.underlying26 info33 rfl (HM.CR 2 rfl).2.2 (by have h_ := LMc57.out; simp only [List.length_singleton]; omega) ?_ (ops := #[]) (hw := by rfl) (hs := (eval_of e30)) (hx := (eval_of e40)))
        clear HM
        intro v1454 w73 HM
        exact hK.out _ _ ⟨.slice Xo72 [(⟨(⟨x6_1, a1, 0⟩ : S31), t1450, t1452⟩ : S33)].length ko72, v1454, PUT (PCH ha 12 (hoff 12 rfl)) 11 hb, (HM.iT 2 rfl (hon 10 rfl)).pick [0, 1, 2]⟩
       refine SZ ?_ ?_
       ·rintro b a w ⟨v63, v1454, ha, HM⟩ hb hon hoff K hK
        replace ha := Aside0.mk ha
        have e41 := PE ha 11 hon
        exact VL (v1454) (hK.out _ _ ⟨v63, v1454, PUT ha 12 hb, HM⟩)
       exact steps_nil
      rintro _ w74 ⟨v63, v1454, rfl, HM⟩
      replace HM := HM.sT 0 rfl rfl
      replace HM := HM.sT 2 rfl rfl
      simp only [putSel, if_true, Act.put, List.setIfInBounds_toArray, List.set_cons_zero, List.set_cons_succ, gt_iff_lt, ge_iff_le]
      have H' := Aside0.mk H
      clear H
      go_wp2
      go_roundg k1
      case measure => have := HK1.out; omega
      case rel => exact ⟨((x5_1 ++ [(⟨(⟨x6_1, a1, 0⟩ : S31), t1450, t1452⟩ : S33)])), (wrap64 (x6_1 + 1)), RS, H', ⟨by have := HK1.out; omega⟩, (MD HM).pick [0]⟩
    ·have c7b0 : decide (x6_1 ≤ 4) = false := decide_eq_false c7
     clear c7
     first|rw [c7b0]|(simp only [i64_w, i32_w]; rw [c7b0])|skip
     obtain rfl := Option.some.inj H
     go_wp2
     go_ret
     exact ⟨_, ER, (MD HM).pick [0]⟩
 ·subst c6
  obtain rfl := Option.some.inj H
  go_wp2
  go_ret
  exact ⟨_, ER, (MD HM).pick [0]⟩
end Go.Proofs.Ytlokjgngjgbpmaa.G

namespace Go.Proofs.Ytlokjgngjgbpmaa.G
open Go.RowKit Go.Proofs.YtlokjgngjgbpmaaW.PrintWords Go.Proofs.YtlokjgngjgbpmaaW.PrintLast Go.Proofs.YtlokjgngjgbpmaaW.PrintMore Go.Proofs.Ytlokjgngjgbpmaa.Sh
attribute [local go_sem] max2_int min2_int max_two min_two max_three min_three max_four min_four
set_option linter.unusedVariables false
set_option linter.unusedSimpArgs false
def spec_NumText.f : Nat → Int → Option (ByteArray)
 | 0, _ => none
 | k + 1, a0 => (spec_l01Num.f a0).bind fun t1464 => (if t1464 = true then (if a0 < 10 then (some (strOfNums (([(wrap64 (48 + a0)) % 256] : List Int)))) else ((spec_NumText.f k (wrap64 (Int.tdiv a0 10))).bind fun t1468 => ((some (([(wrap64 (48 + (Int.tmod a0 10))) % 256] : List Int) : List Int)).bind fun y1469 => (if t1468.size + (strOfNums y1469).size ≤ 9223372036854775807 then (some (t1468 ++ (strOfNums y1469))) else (none))))) else (some (⟨#[]⟩ : ByteArray)))
theorem spec_NumText.mono_l : ∀ k, (∀ y0, LeO (spec_NumText.f k y0) (spec_NumText.f (k + 1) y0))
 | 0 => fun _ r h => by simp [spec_NumText.f] at h
 | k + 1 => by
  have ih0 := spec_NumText.mono_l k
  ·intro y0
   unfold spec_NumText.f
   repeat' first | (with_reducible first | exact ih0 _ | exact LeO.refl _ | exact LeO.none _ | refine LeO.ite ?_ ?_ | refine LeO.bind ?_ (fun _ => ?_)) | exact LeO.none _ | refine LeO.ite ?_ ?_ | refine LeO.bind ?_ (fun _ => ?_)
theorem spec_NumText.mono : ∀ a0 k, LeO (spec_NumText.f k a0) (spec_NumText.f (k + 1) a0) := by
 intro a0 k
 have ih0 := spec_NumText.mono_l k
 exact ih0 a0
def spec_NumText.T5 : Bool × List (List Nat × List Nat) := (true, [([], []), ([0], [0]), ([1], [1]), ([], []), ([3], [3]), ([4], [4]), ([5], [5]), ([6], [6]), ([7], [7]), ([2, 8], [2, 8]), ([9, 2, 0, 1, 2, 3, 4, 5, 6, 7, 8, 9], [9])])
def spec_NumText.B5 : List Nat := [0, 1, 3, 0, 8, 24, 56, 120, 248, 511, 1023]
theorem spec_NumText.tab5 : rtab .any (opsOf Try.f35 5) = spec_NumText.T5 := by kernel_rfl
theorem spec_NumText.bits5 : waitsOk spec_NumText.T5.2 spec_NumText.B5 = true := by kernel_rfl
theorem spec_NumText.z0 {P : Prop} (h : P := by simp only [putAll, Act.put, List.setIfInBounds_toArray, List.set_cons_zero, List.set_cons_succ]) : P := h
theorem spec_NumText.calls (k : Nat) : ∀ (a0 : Int) (r : ByteArray) (w : World) (h : spec_NumText.f k a0 = some r),
  Calls Try.prog 35 #[.int .i64 a0] w fun e w' => e = .returned (.string r) ∧ Below w.heap.size w w' := by
 induction k using Nat.strongRecOn with
 | _ k ih =>
 intro a0 r w h
 cases k with
 | zero => exact absurd h (by simp [spec_NumText.f])
 | succ k =>
 simp only [spec_NumText.f] at h
 have HB := Aside0.mk (Below.refl w.heap.size w)
 have H : ((spec_l01Num.f a0).bind fun t1464 => (if t1464 = true then (if a0 < 10 then (some (strOfNums (([(wrap64 (48 + a0)) % 256] : List Int)))) else ((spec_NumText.f k (wrap64 (Int.tdiv a0 10))).bind fun t1468 => ((some (([(wrap64 (48 + (Int.tmod a0 10))) % 256] : List Int) : List Int)).bind fun y1469 => (if t1468.size + (strOfNums y1469).size ≤ 9223372036854775807 then (some (t1468 ++ (strOfNums y1469))) else (none))))) else (some (⟨#[]⟩ : ByteArray)))) = some r := h
 clear h
 replace H := BS H
 obtain ⟨t1464, A20, H⟩ := H
 have A2 := Aside0.mk A20
 clear A20
 by_cases c3 : t1464 = true
 ·subst c3
  replace H := IP H
  by_cases c4 : a0 < 10
  ·rw [if_pos c4] at H
   have c4b0 : decide (a0 < 10) = true := decide_eq_true c4
   clear c4
   obtain ⟨y1465, hy1465⟩ : ∃ y_ : List Int, y_ = (([(wrap64 (48 + a0)) % 256] : List Int)) := ⟨_, rfl⟩
   replace H : (some (strOfNums y1465)) = some r := by first | (rw [hy1465]; with_reducible exact H) | (have H2_ := (Option.bind_some _ _).symm.trans H; rw [hy1465]; with_reducible exact H2_) | (have H2_ := (Option.bind_some _ _).symm.trans H; with_reducible exact H2_) | with_reducible exact H | (rw [hy1465]; exact H) | exact H
   have Ny1465 := Aside0.mk hy1465
   clear hy1465
   obtain rfl := Option.some.inj H
   go_enter Try.func35, Try.ntmps35
   go_wp2_with (first | ((with_reducible refine gate_callee (f := 52) rfl ?_); refine goesL_ (some 4) rfl rfl Try.func52 (by kernel_rfl) rfl #[.int .i64 a0] rfl AQ ?_; (with_reducible refine (spec_l01Num.calls a0 true _ A2.out).mono ?_); rintro e w' ⟨rfl, ⟨nd, rfl⟩⟩; refine ⟨_, rfl, ?_⟩) | ((with_reducible refine gate_dst (N := 11) rfl ?_); refine Kd.R_lit (Kd.int .u8) _ 5 ?hg (N := 11) ?hd (xs := ([(wrap64 (48 + a0)) % 256] : List Int)) (inner := [.int .u8 ((wrap64 (48 + a0)) % 256)]) (ok := fun _ => True) (okp := fun _ => True) ?hr ?hp (fun _ hk => hk) trivial (Below.refl _ _) (Nat.le_refl _) (by simp) ?_; (case hd => rfl); (case hg => rfl); (case hr => first | (go_simp; done) | (go_simp; rfl)); (case hp => exact (Reps.one (show Kd.M (Kd.int .u8) _ _ _ ((wrap64 (48 + a0)) % 256) [.int .u8 ((wrap64 (48 + a0)) % 256)] from rfl) (Reps.none _ _))); intro v1466 w5 ho6 hb hg_ hnew_; clear hg_ hnew_; (first | rw [← Ny1465.out] at ho6 | (simp only [Int.reduceToNat] at ho6; rw [← Ny1465.out] at ho6)); have n_ : _ ∧ _ := ⟨AsM (Kd.R_lower ho6 (below_size BL)), AsM (below_step BL hb)⟩; clear HB; obtain ⟨HO1467, HB⟩ := n_; clear hb ho6; have hcv7 := own_string (P := Try.prog) Try.underlying22 Try.underlying5 Try.underlying9 (Kd.own_of_R HO1467.out)))
   go_ret
   exact ⟨ER, BL⟩
  ·rw [if_neg c4] at H
   have c4b0 : decide (a0 < 10) = false := decide_eq_false c4
   clear c4
   replace H := BS H
   obtain ⟨t1468, A80, H⟩ := H
   have A8 := Aside0.mk A80
   clear A80
   obtain ⟨y1469, hy1469⟩ : ∃ y_ : List Int, y_ = (([(wrap64 (48 + (Int.tmod a0 10))) % 256] : List Int)) := ⟨_, rfl⟩
   replace H : (if t1468.size + (strOfNums y1469).size ≤ 9223372036854775807 then (some (t1468 ++ (strOfNums y1469))) else (none)) = some r := by first | (rw [hy1469]; with_reducible exact H) | (have H2_ := (Option.bind_some _ _).symm.trans H; rw [hy1469]; with_reducible exact H2_) | (have H2_ := (Option.bind_some _ _).symm.trans H; with_reducible exact H2_) | with_reducible exact H | (rw [hy1469]; exact H) | exact H
   have Ny1469 := Aside0.mk hy1469
   clear hy1469
   by_cases c9 : t1468.size + (strOfNums y1469).size ≤ 9223372036854775807
   ·rw [if_pos c9] at H
    have c9b0 := eq_true c9
    have c9b1 : decide (t1468.size + (strOfNums y1469).size ≤ 9223372036854775807) = true := decide_eq_true c9
    try have c9b2 : (9223372036854775807 < t1468.size + (strOfNums y1469).size) = False := eq_false (Nat.not_lt.2 c9)
    obtain rfl := Option.some.inj H
    go_enter Try.func35, Try.ntmps35
    try go_wp2_with (first | ((with_reducible refine gate_callee (f := 52) rfl ?_); refine goesL_ (some 4) rfl rfl Try.func52 (by kernel_rfl) rfl #[.int .i64 a0] rfl AQ ?_; (with_reducible refine (spec_l01Num.calls a0 true _ A2.out).mono ?_); rintro e w' ⟨rfl, ⟨nd, rfl⟩⟩; refine ⟨_, rfl, ?_⟩))
    rw [drewN_self w]; generalize hq_ : World.drewN w _ = w10; have n0_ : Aside0 (Below w.heap.size w w10) := ⟨by rw [← hq_]; exact BL⟩; clear HB hq_; have HB := n0_; clear n0_
    have n_ := AsM (below_drew1 HB.out)
    clear HB
    have HB := n_
    clear n_
    refine start_ (n := 11) (S := fun w' => True) (ds := []) #[false, false, false, false, false, false, false, false, false, false, false] (by kernel_rfl) rfl rfl trivial (fun hHeld => ?_); refine with_tabW spec_NumText.tab5 spec_NumText.bits5 (fun HT_ HW_ => ?_)
    generalize w10.drew = w11 at HB hHeld ⊢
    refine PU (i := 0) (N := some 13) (tf 1 10) rfl rfl HT_ ?_
    refine PU (i := 1) (N := some 14) (tf 2 9) rfl rfl HT_ ?_
    refine PU (i := 3) (N := some 16) #[true, true, false, true, false, false, false, false, false, false, false] rfl rfl HT_ ?_
    refine PU (i := 4) (N := some 17) #[true, true, false, true, true, false, false, false, false, false, false] rfl rfl HT_ ?_
    refine PU (i := 5) (N := some 18) #[true, true, false, true, true, true, false, false, false, false, false] rfl rfl HT_ ?_
    refine PU (i := 6) (N := some 19) #[true, true, false, true, true, true, true, false, false, false, false] rfl rfl HT_ ?_
    refine join_ (σ := Value) 2 #[true, true, true, true, true, true, true, true, true, false, false] (fun s_ => [(15, .string t1468), (20, s_), (21, .string (strOfNums y1469))]) (fun s_ w' => (Kd.R (Kd.int .u8) 5 w' w.heap.size (fun _ => True) s_ y1469) ∧ (Below w.heap.size w w')) ?_ ?_
    rotate_left
    ·intro hCont
     refine two_ (i := 2) (j := 7) (Ni := some 15) (Nj := some 20) #[true, true, true, true, true, true, true, false, false, false, false] #[true, true, false, true, true, true, true, true, false, false, false] rfl rfl rfl rfl (two_of HT_.out (by kernel_rfl)) (by decide) (by decide) (fun K hK => ?_) (fun K hK => ?_)
     ·skip
      refine goes_ Try.func35 (by kernel_rfl) rfl #[.int .i64 (wrap64 (Int.tdiv a0 10))] (by rfl) rfl rfl AQ ?_
      with_reducible refine (ih k (by omega) (wrap64 (Int.tdiv a0 10)) t1468 _ A8.out).mono ?_
      rintro e w12 ⟨rfl, hb⟩
      refine ⟨_, rfl, ?_⟩
      have n_ := AsM (below_step BL hb)
      clear HB
      have HB := n_
      clear n_
      (try clear hb)
      (try clear hb2)
      (try clear hk)
      (try clear hi)
      refine hK.out _ _ trivial (fun hHeld => ?_)
      clear hK K
      refine NM (some 15) ?_
      refine one_ (i := 7) (N := some 20) (tf 8 3) rfl rfl (one_of HT_.out (by kernel_rfl)) (by decide) (fun K hK => ?_)
      refine Kd.R_lit_step (Kd.int .u8) _ 5 ?hg (N := 20) ?hd (xs := ([(wrap64 (48 + (Int.tmod a0 10))) % 256] : List Int)) (inner := [.int .u8 ((wrap64 (48 + (Int.tmod a0 10))) % 256)]) (ok := fun _ => True) (okp := fun _ => True) ?hr ?hp (fun _ hk => hk) trivial (Below.refl _ _) (Nat.le_refl _) (by simp) ?_; (case hd => rfl); (case hg => rfl); (case hr => first | (go_simp; done) | (go_simp; rfl)); (case hp => exact (Reps.one (show Kd.M (Kd.int .u8) _ _ _ ((wrap64 (48 + (Int.tmod a0 10))) % 256) [.int .u8 ((wrap64 (48 + (Int.tmod a0 10))) % 256)] from rfl) (Reps.none _ _)))
      intro v1470 w13 ho14 hb hg_ hnew_
      clear hg_ hnew_
      (first | rw [← Ny1469.out] at ho14 | (simp only [Int.reduceToNat] at ho14; rw [← Ny1469.out] at ho14))
      have n_ : _ ∧ _ := ⟨AsM (Kd.R_lower ho14 (below_size BL)), AsM (below_step BL hb)⟩
      clear HB
      obtain ⟨HO1471, HB⟩ := n_
      clear hb ho14
      refine hK.out _ _ trivial (fun hHeld => ?_)
      clear hK K
      refine NM (some 20) ?_
      refine one_ (i := 8) (N := some 21) (tf 9 2) rfl rfl (one_of HT_.out (by kernel_rfl)) (by decide) (fun K hK => ?_)
      have hcv15 := own_string (P := Try.prog) Try.underlying22 Try.underlying5 Try.underlying9 (Kd.own_of_R HO1471.out)
      refine value_ (w1 := ?_) (v := ?_) (by rfl) rfl ?_ ?_
      rotate_left 2
      ·go_simp
       constructor
       ·rfl
       ·rfl
      clear hcv15
      refine hK.out _ _ trivial (fun hHeld => ?_)
      clear hK K
      refine NM (some 21) ?_
      exact norm_ (spec_NumText.z0) (hCont (v1470) _ ⟨(RD HO1471), BL⟩)
     ·skip
      refine Kd.R_lit_step (Kd.int .u8) _ 5 ?hg (N := 20) ?hd (xs := ([(wrap64 (48 + (Int.tmod a0 10))) % 256] : List Int)) (inner := [.int .u8 ((wrap64 (48 + (Int.tmod a0 10))) % 256)]) (ok := fun _ => True) (okp := fun _ => True) ?hr ?hp (fun _ hk => hk) trivial (Below.refl _ _) (Nat.le_refl _) (by simp) ?_; (case hd => rfl); (case hg => rfl); (case hr => first | (go_simp; done) | (go_simp; rfl)); (case hp => exact (Reps.one (show Kd.M (Kd.int .u8) _ _ _ ((wrap64 (48 + (Int.tmod a0 10))) % 256) [.int .u8 ((wrap64 (48 + (Int.tmod a0 10))) % 256)] from rfl) (Reps.none _ _)))
      intro v1470 w12 ho13 hb hg_ hnew_
      clear hg_ hnew_
      (first | rw [← Ny1469.out] at ho13 | (simp only [Int.reduceToNat] at ho13; rw [← Ny1469.out] at ho13))
      have n_ : _ ∧ _ := ⟨AsM (Kd.R_lower ho13 (below_size BL)), AsM (below_step BL hb)⟩
      clear HB
      obtain ⟨HO1471, HB⟩ := n_
      clear hb ho13
      refine hK.out _ _ trivial (fun hHeld => ?_)
      clear hK K
      refine NM (some 20) ?_
      refine two_ (i := 2) (j := 8) (Ni := some 15) (Nj := some 21) #[true, true, true, true, true, true, true, true, false, false, false] #[true, true, false, true, true, true, true, true, true, false, false] rfl rfl rfl rfl (two_of HT_.out (by kernel_rfl)) (by decide) (by decide) (fun K hK => ?_) (fun K hK => ?_)
      ·skip
       refine goes_ Try.func35 (by kernel_rfl) rfl #[.int .i64 (wrap64 (Int.tdiv a0 10))] (by rfl) rfl rfl AQ ?_
       with_reducible refine (ih k (by omega) (wrap64 (Int.tdiv a0 10)) t1468 _ A8.out).mono ?_
       rintro e w14 ⟨rfl, hb⟩
       refine ⟨_, rfl, ?_⟩
       have n_ : _ ∧ _ := ⟨AsM (Kd.R_below (RD HO1471) hb), AsM (below_step BL hb)⟩
       clear HO1471 HB
       obtain ⟨HO1471, HB⟩ := n_
       (try clear hb)
       (try clear hb2)
       (try clear hk)
       (try clear hi)
       refine hK.out _ _ trivial (fun hHeld => ?_)
       clear hK K
       refine NM (some 15) ?_
       refine one_ (i := 8) (N := some 21) (tf 9 2) rfl rfl (one_of HT_.out (by kernel_rfl)) (by decide) (fun K hK => ?_)
       have hcv15 := own_string (P := Try.prog) Try.underlying22 Try.underlying5 Try.underlying9 (Kd.own_of_R HO1471.out)
       refine value_ (w1 := ?_) (v := ?_) (by rfl) rfl ?_ ?_
       rotate_left 2
       ·go_simp
        constructor
        ·rfl
        ·rfl
       clear hcv15
       refine hK.out _ _ trivial (fun hHeld => ?_)
       clear hK K
       refine NM (some 21) ?_
       exact norm_ (spec_NumText.z0) (hCont (v1470) _ ⟨(RD HO1471), BL⟩)
      ·skip
       have hcv14 := own_string (P := Try.prog) Try.underlying22 Try.underlying5 Try.underlying9 (Kd.own_of_R HO1471.out)
       refine value_ (w1 := ?_) (v := ?_) (by rfl) rfl ?_ ?_
       rotate_left 2
       ·go_simp
        constructor
        ·rfl
        ·rfl
       clear hcv14
       refine hK.out _ _ trivial (fun hHeld => ?_)
       clear hK K
       refine NM (some 21) ?_
       refine one_ (i := 2) (N := some 15) (tf 9 2) rfl rfl (one_of HT_.out (by kernel_rfl)) (by decide) (fun K hK => ?_)
       refine goes_ Try.func35 (by kernel_rfl) rfl #[.int .i64 (wrap64 (Int.tdiv a0 10))] (by rfl) rfl rfl AQ ?_
       with_reducible refine (ih k (by omega) (wrap64 (Int.tdiv a0 10)) t1468 _ A8.out).mono ?_
       rintro e w15 ⟨rfl, hb⟩
       refine ⟨_, rfl, ?_⟩
       have n_ : _ ∧ _ := ⟨AsM (Kd.R_below (RD HO1471) hb), AsM (below_step BL hb)⟩
       clear HO1471 HB
       obtain ⟨HO1471, HB⟩ := n_
       (try clear hb)
       (try clear hb2)
       (try clear hk)
       (try clear hi)
       refine hK.out _ _ trivial (fun hHeld => ?_)
       clear hK K
       refine NM (some 15) ?_
       exact norm_ (spec_NumText.z0) (hCont (v1470) _ ⟨(RD HO1471), BL⟩)
    rintro v1470 w16 ⟨h0_, h1_⟩
    have n0_ : Aside0 (Kd.R (Kd.int .u8) 5 w16 w.heap.size (fun _ => True) v1470 y1469) := ⟨h0_⟩
    have n1_ : Aside0 (Below w.heap.size w w16) := ⟨h1_⟩
    clear HB
    clear h0_ h1_
    have HO1471 := n0_
    have HB := n1_
    clear n0_ n1_
    have hHeld := trivial
    refine norm_ (a' := ?_) ?_ ?_
    rotate_left
    ·simp only [putAll, Act.put, List.setIfInBounds_toArray, List.set_cons_zero, List.set_cons_succ]
     rfl
    refine PU (i := 9) (N := some 22) (tf 10 1) rfl rfl HT_ ?_
    refine PU (i := 10) (N := some 2) (tf 11 0) rfl rfl HT_ ?_
    refine done_ (done_of HT_.out (by kernel_rfl)) ?_
    try go_wp2
    go_ret
    exact ⟨ER, BL⟩
   ·rw [if_neg c9] at H
    exact absurd H (by simp)
 ·replace c3 := Bool.eq_false_iff.mpr c3
  subst c3
  replace H := IN H
  obtain rfl := Option.some.inj H
  go_enter Try.func35, Try.ntmps35
  go_wp2_with (first | ((with_reducible refine gate_callee (f := 52) rfl ?_); refine goesL_ (some 4) rfl rfl Try.func52 (by kernel_rfl) rfl #[.int .i64 a0] rfl AQ ?_; (with_reducible refine (spec_l01Num.calls a0 false _ A2.out).mono ?_); rintro e w' ⟨rfl, ⟨nd, rfl⟩⟩; refine ⟨_, rfl, ?_⟩))
  go_ret
  exact ⟨ER, BL⟩
end Go.Proofs.Ytlokjgngjgbpmaa.G

namespace Go.Proofs.Ytlokjgngjgbpmaa.G
open Go.RowKit Go.Proofs.YtlokjgngjgbpmaaW.PrintWords Go.Proofs.YtlokjgngjgbpmaaW.PrintLast Go.Proofs.YtlokjgngjgbpmaaW.PrintMore Go.Proofs.Ytlokjgngjgbpmaa.Sh
attribute [local go_sem] max2_int min2_int max_two min_two max_three min_three max_four min_four
set_option linter.unusedVariables false
set_option linter.unusedSimpArgs false
open Go.Proofs.Ytlokjgngjgbpmaa.Mm
mutual
def spec_Survey.l0 : Nat → List ByteArray → Int → List ByteArray → Int → Option (List ByteArray)
 | 0, _, _, _, _ => none
 | k + 1, x0, x1, x5, x6 => if x6 ≤ x1 then ((spec_NumText.f k x6).bind fun t1476 => ((spec_Lab.f k x0 x6).bind fun t1477 => (spec_Survey.l1 k x0 x1 x5 x6 t1476 t1477 (t1477.length : Int) 0))) else (some x5)
def spec_Survey.l1 : Nat → List ByteArray → Int → List ByteArray → Int → ByteArray → List (S33) → Int → Int → Option (List ByteArray)
 | 0, _, _, _, _, _, _, _, _ => none
 | k + 1, x0, x1, x5, x6, x7, x25, x26, x27 => if x27 < x26 then (if 0 ≤ x27 then (if x27 < (x25.length : Int) then (if x7.size + 1 ≤ 9223372036854775807 then ((spec_NumText.f k ((rd_T33 x25 x27).f1)).bind fun t1482 => (if x7.size + 1 + t1482.size ≤ 9223372036854775807 then (spec_Survey.l1 k x0 x1 x5 x6 ((x7 ++ (⟨#[32]⟩ : ByteArray)) ++ t1482) x25 x26 (wrap64 (x27 + 1))) else (none))) else (none)) else (none)) else (none)) else (if x7.size + 1 ≤ 9223372036854775807 then ((spec_BestMisses.f k x0 x6).bind fun t1483 => ((spec_NumText.f k t1483).bind fun t1484 => (if x7.size + 1 + t1484.size ≤ 9223372036854775807 then (if x5.length < 8796093022208 then (spec_Survey.l0 k x0 x1 (x5 ++ [(x7 ++ (⟨#[32]⟩ : ByteArray)) ++ t1484]) (wrap64 (x6 + 1))) else (none)) else (none)))) else (none))
end
def spec_Survey.f (k : Nat) (l0 : List ByteArray) (a1 : Int) : Option (List ByteArray) := (some (([] : List ByteArray) : List ByteArray)).bind fun y1472 => ((spec_l13Ok.f k l0 a1).bind fun t1475 => (if t1475 = true then (spec_Survey.l0 k l0 a1 y1472 1) else (some y1472)))
theorem spec_Survey.calls (k : Nat) (A0 : Option Addr) (c0 : Nat) (l0 : List ByteArray) (a1 : Int) (r : List ByteArray) (w : World) (hr0 : Kd.C Kd.string w A0 l0.length l0) (hc0 : l0.length ≤ c0) (h : spec_Survey.f k l0 a1 = some r) :
  Calls Try.prog 15 #[.slice A0 l0.length c0, .int .i64 a1] w fun e w' => ∃ v0_ : Value, e = .returned (v0_) ∧ Mem w [] w' [rowR Kd.string 9 v0_ r] := by
 have hu33 := Try.underlying33
 have HR0 := Aside0.mk hr0
 have HC0 := Aside0.mk hc0
 clear hr0 hc0
 have HM := Mem.nil w
 have H := h
 clear h
 unfold spec_Survey.f at H
 go_enter Try.func15, Try.ntmps15
 replace H := BLt H; obtain ⟨y1472, Ny1472, H⟩ := H
 replace Ny1472 := Aside0.mk Ny1472
 replace H := BN H; obtain ⟨t1475, A4, H⟩ := H
 go_upto_if 14 with (first | ((with_reducible refine gN 10 rfl ?_); refine pL 10 Kd.string 9 ([] : List ByteArray) [] (Reps.none _ _) HM rfl ?_; clear HM; intro v1473 w3 HM; replace HM := HM.nm 0 rfl Ny1472.out) | ((with_reducible refine gC 34 rfl ?_); refine pC (some 13) rfl #[.slice A0 l0.length c0, .int .i64 a1] rfl Try.func34 (spec_l13Ok.calls k _ _ l0 a1 t1475 _ (HM.came HR0.out) HC0.out A4.out) ?_; rintro e w5 ⟨rfl, hR⟩; refine ⟨_, rfl, ?_⟩; replace HM := HM.call hR; clear hR))
 replace H := IB H
 rcases H with ⟨c6, H⟩ | ⟨c6, H⟩
 ·subst c6
  have H' := Aside0.mk H
  clear H
  go_wp2
  go_loopg [5, 6] k (fun kq v5 v6 w' => ∃ (x5_1 : List ByteArray) (x6_1 : Int), v6 = .int .i64 x6_1 ∧ Aside0 (spec_Survey.l0 kq l0 a1 x5_1 x6_1 = some r) ∧ Aside0 (kq ≤ k) ∧ Mem w [] w' [rowR Kd.string 9 v5 x5_1])
  case atStart => exact ⟨(y1472), (1), RS, H', ⟨Nat.le_refl _⟩, (MD HM).pick [0]⟩
  case round =>
   clear H' HM
   obtain ⟨x5_1, x6_1, rfl, HA, HK1, HM⟩ := hrel
   cases gk with
   | zero => exact absurd HA.out (by simp [spec_Survey.l0])
   | succ k1 =>
    have H := HA.out
    clear HA
    simp only [spec_Survey.l0] at H
    go_upto_if 18 with (fail)
    replace H := IT H; rcases H with ⟨c7, H⟩ | ⟨c7, H⟩
    ·have c7b0 := decide_eq_true c7
     clear c7
     first|rw [c7b0]|(simp only [i64_w, i32_w]; rw [c7b0])|skip
     replace H := BN H; obtain ⟨t1476, A8, H⟩ := H
     replace H := BN H; obtain ⟨t1477, A10, H⟩ := H
     have H' := Aside0.mk H
     clear H
     go_wp2_with (first | ((with_reducible refine gC 35 rfl ?_); refine pC (some 22) rfl #[.int .i64 x6_1] rfl Try.func35 (spec_NumText.calls k1 x6_1 t1476 _ A8.out) ?_; rintro e w9 ⟨rfl, hb⟩; refine ⟨_, rfl, ?_⟩; replace HM := HM.below hb; clear hb) | ((with_reducible refine gC 20 rfl ?_); refine pC (some 25) rfl #[.slice A0 l0.length c0, .int .i64 x6_1] rfl Try.func20 (spec_Lab.calls k1 _ _ l0 x6_1 t1477 _ (HM.came HR0.out) HC0.out A10.out) ?_; rintro e w11 ⟨v1478, rfl, hR⟩; refine ⟨_, rfl, ?_⟩; replace HM := HM.call hR; clear hR; obtain ⟨Xo12, ko12, rfl⟩ := HM.rdR 1 rfl))
     go_loopg [7, 27] k1 (fun kq v7 v27 w' => ∃ (x7_2 : ByteArray) (x27_2 : Int), v7 = .string x7_2 ∧ v27 = .int .i64 x27_2 ∧ Aside0 (spec_Survey.l1 kq l0 a1 x5_1 x6_1 x7_2 t1477 (t1477.length : Int) x27_2 = some r) ∧ Aside0 (kq ≤ k1) ∧ Mem w [] w' [rowR Kd.string 9 u5 x5_1, rowR k33 33 (.slice Xo12 t1477.length ko12) t1477])
     case atStart => exact ⟨(t1476), (0), RS, RS, H', ⟨Nat.le_refl _⟩, (MD HM).pick [0, 1]⟩
     case round =>
      clear H' HM
      obtain ⟨x7_2, x27_2, rfl, rfl, HA, HK2, HM⟩ := hrel
      cases gk with
      | zero => exact absurd HA.out (by simp [spec_Survey.l1])
      | succ k2 =>
       have H := HA.out
       clear HA
       simp only [spec_Survey.l1] at H
       go_upto_if 28 with (fail)
       replace H := IT H; rcases H with ⟨c13, H⟩ | ⟨c13, H⟩
       ·have c13b0 := decide_eq_true c13
        clear c13
        first|rw [c13b0]|(simp only [i64_w, i32_w]; rw [c13b0])|skip
        replace H := GD H; obtain ⟨c14, H⟩ := H
        have c14b0 := decide_eq_true c14
        clear c14
        replace H := GD H; obtain ⟨c15, H⟩ := H
        have c15b0 := decide_eq_true c15
        clear c15
        replace H := GD H; obtain ⟨c18, H⟩ := H
        have c18b0 := eq_true c18
        have c18b1 : decide (x7_2.size + 1 ≤ 9223372036854775807) = true := decide_eq_true c18
        try have c18b2 : (9223372036854775807 < x7_2.size + 1) = False := eq_false (Nat.not_lt.2 c18)
        replace H := BN H; obtain ⟨t1482, A20, H⟩ := H
        replace H := GD H; obtain ⟨c22, H⟩ := H
        have c22b0 := eq_true c22
        have c22b1 : decide (x7_2.size + 1 + t1482.size ≤ 9223372036854775807) = true := decide_eq_true c22
        try have c22b2 : (9223372036854775807 < x7_2.size + 1 + t1482.size) = False := eq_false (Nat.not_lt.2 c22)
        have H' := Aside0.mk H
        clear H
        have p1480 : 0 ≤ (x27_2 : Int) := of_decide_eq_true AS
        have q1480 : (x27_2 : Int) < (t1477.length : Int) := of_decide_eq_true AS
        obtain ⟨ad1480, e1480, hx1480_0, hx1480_1, hx1480_2, hx1480_3, hx1480_4⟩ := at_T33 (HM.CR 1 rfl).2.2 x27_2 p1480 q1480
        cases e1480
        replace p1480 := eq_true p1480
        replace q1480 := eq_true q1480
        go_wp2_with (first | ((with_reducible refine gN 9 rfl ?_); refine pB 9 33 [.int .i64 0, .int .i64 0, .int .i64 0, .int .i64 0, .int .i64 0] HM rfl ?_; clear HM; intro gb1481 w16 HM) | ((with_reducible refine gS 9 rfl ?_); refine pS 2 9 0 [.int .i64 ((rd_T33 t1477 x27_2).f0.f0), .int .i64 ((rd_T33 t1477 x27_2).f0.f1), .int .i64 ((rd_T33 t1477 x27_2).f0.f2), .int .i64 ((rd_T33 t1477 x27_2).f1), .int .i64 ((rd_T33 t1477 x27_2).f2)] HM rfl rfl ?_; clear HM; intro w17 HM; obtain ⟨_,_,_,_,_,_,_,_,_,_⟩ := bk5 (HM.bx 2 rfl)) | ((with_reducible refine gC 35 rfl ?_); refine pC (some 35) rfl #[.int .i64 ((rd_T33 t1477 x27_2).f1)] rfl Try.func35 (spec_NumText.calls k2 ((rd_T33 t1477 x27_2).f1) t1482 _ A20.out) ?_; rintro e w21 ⟨rfl, hb⟩; refine ⟨_, rfl, ?_⟩; replace HM := HM.below hb; clear hb))
        go_roundg k2
        case measure => have := HK1.out; have := HK2.out; omega
        case rel => exact ⟨((x7_2 ++ (⟨#[32]⟩ : ByteArray)) ++ t1482), (wrap64 (x27_2 + 1)), RS, RS, H', ⟨by have := HK1.out; have := HK2.out; omega⟩, (MD HM).pick [0, 1]⟩
       ·have c13b0 := decide_eq_false c13
        clear c13
        first|rw [c13b0]|(simp only [i64_w, i32_w]; rw [c13b0])|skip
        replace H := GD H; obtain ⟨c23, H⟩ := H
        have c23b0 := eq_true c23
        have c23b1 : decide (x7_2.size + 1 ≤ 9223372036854775807) = true := decide_eq_true c23
        try have c23b2 : (9223372036854775807 < x7_2.size + 1) = False := eq_false (Nat.not_lt.2 c23)
        replace H := BN H; obtain ⟨t1483, A24, H⟩ := H
        replace H := BN H; obtain ⟨t1484, A26, H⟩ := H
        replace H := GD H; obtain ⟨c28, H⟩ := H
        have c28b0 := eq_true c28
        have c28b1 : decide (x7_2.size + 1 + t1484.size ≤ 9223372036854775807) = true := decide_eq_true c28
        try have c28b2 : (9223372036854775807 < x7_2.size + 1 + t1484.size) = False := eq_false (Nat.not_lt.2 c28)
        replace H := GD H; obtain ⟨c29, H⟩ := H
        have LMc29 := Aside0.mk c29
        clear c29
        have H' := Aside0.mk H
        clear H
        go_wp2_with (first | ((with_reducible refine gC 36 rfl ?_); refine pC (some 43) rfl #[.slice A0 l0.length c0, .int .i64 x6_1] rfl Try.func36 (spec_BestMisses.calls k2 _ _ l0 x6_1 t1483 _ (HM.came HR0.out) HC0.out A24.out) ?_; rintro e w25 ⟨rfl, hR⟩; refine ⟨_, rfl, ?_⟩; replace HM := HM.call hR; clear hR) | ((with_reducible refine gC 35 rfl ?_); refine pC (some 44) rfl #[.int .i64 t1483] rfl Try.func35 (spec_NumText.calls k2 t1483 t1484 _ A26.out) ?_; rintro e w27 ⟨rfl, hb⟩; refine ⟨_, rfl, ?_⟩; replace HM := HM.below hb; clear hb) | ((with_reducible refine gN 46 rfl ?_); refine pL 46 Kd.string 9 [(x7_2 ++ (⟨#[32]⟩ : ByteArray)) ++ t1484] [.string ((x7_2 ++ (⟨#[32]⟩ : ByteArray)) ++ t1484)] (Reps.one (show Kd.M Kd.string _ _ _ ((x7_2 ++ (⟨#[32]⟩ : ByteArray)) ++ t1484) [.string ((x7_2 ++ (⟨#[32]⟩ : ByteArray)) ++ t1484)] from rfl) (Reps.none _ _)) HM rfl ?_; clear HM; intro v31 w30 HM; obtain ⟨Xv31, kv31, rfl⟩ := HM.rdR 2 rfl) | ((with_reducible refine gate_builtin (b := .append) (xs := #[.tmp 38, .tmp 46]) rfl ?_); refine pA 0 (.tmp 38) (.tmp 46) 23 9 Kd.string u5 x5_1 [(x7_2 ++ (⟨#[32]⟩ : ByteArray)) ++ t1484] Xv31 ([(x7_2 ++ (⟨#[32]⟩ : ByteArray)) ++ t1484].length) kv31 HM rfl Try.underlying23 info9 rfl (HM.CR 2 rfl).2.2 (by have h_ := LMc29.out; simp only [List.length_singleton]; omega) ?_; clear HM; intro v1486 w32 HM))
        go_roundg k2
        case measure => have := HK1.out; have := HK2.out; omega
        case rel => exact ⟨((x5_1 ++ [(x7_2 ++ (⟨#[32]⟩ : ByteArray)) ++ t1484])), (wrap64 (x6_1 + 1)), RS, H', ⟨by have := HK1.out; have := HK2.out; omega⟩, (MD HM).pick [0]⟩
    ·have c7b0 := decide_eq_false c7
     clear c7
     first|rw [c7b0]|(simp only [i64_w, i32_w]; rw [c7b0])|skip
     obtain rfl := Option.some.inj H
     go_wp2
     go_ret
     exact ⟨_, ER, (MD HM).pick [0]⟩
 ·subst c6
  obtain rfl := Option.some.inj H
  go_wp2
  go_ret
  exact ⟨_, ER, (MD HM).pick [0]⟩
/-- A state of type 48 at block g of W; what its slices lead to came in by w0. -/
def IsS48 (w0 W : World) (g : Nat) (f0 : List Int) (f1 : Int) (f2 : Int) : Prop := ∃ A0 c0, W.heap[g]? = some (.cells #[.slice A0 f0.length c0, .int .i64 f1, .int .i64 f2] 48 (0, 0)) ∧ w0.heap.size ≤ g ∧ Kd.C (Kd.int .u8) w0 A0 f0.length f0
theorem IsS48.grown {w0 W : World} {g : Nat} {f0 : List Int} {f1 : Int} {f2 : Int} {W1 : World} {row : Option Nat} (h : IsS48 w0 W g f0 f1 f2) (hw : W.grownBy W1 row) (hne : some g ≠ row) : IsS48 w0 W1 g f0 f1 f2 := by
 obtain ⟨A0, c0, hb, hg, hr0⟩ := h
 exact ⟨A0, c0, blk_grown hb hw hne, hg, hr0⟩
theorem IsS48.kept {w0 W : World} {g : Nat} {f0 : List Int} {f1 : Int} {f2 : Int} {W1 : World} {S : Nat → Prop} (h : IsS48 w0 W g f0 f1 f2) (hk : Kept W W1 S) (hne : ¬ S g) : IsS48 w0 W1 g f0 f1 f2 := by
 obtain ⟨A0, c0, hb, hg, hr0⟩ := h
 exact ⟨A0, c0, blk_kept hb hk hne, hg, hr0⟩
theorem IsS48.below {w0 W : World} {g : Nat} {f0 : List Int} {f1 : Int} {f2 : Int} {W1 : World} (h : IsS48 w0 W g f0 f1 f2) (hw : Below W.heap.size W W1) : IsS48 w0 W1 g f0 f1 f2 := h.grown (grown_of_below hw none) (by simp)
theorem IsS48.alloc {w0 W : World} {g : Nat} {f0 : List Int} {f1 : Int} {f2 : Int} (h : IsS48 w0 W g f0 f1 f2) (o : Obj) : IsS48 w0 (W.alloc o) g f0 f1 f2 := h.below (below_alloc (Below.refl _ _) o)
theorem IsS48.drewN {w0 W : World} {g : Nat} {f0 : List Int} {f1 : Int} {f2 : Int} (h : IsS48 w0 W g f0 f1 f2) (m : Nat) : IsS48 w0 (W.drewN m) g f0 f1 f2 := h
theorem IsS48.drew {w0 W : World} {g : Nat} {f0 : List Int} {f1 : Int} {f2 : Int} (h : IsS48 w0 W g f0 f1 f2) : IsS48 w0 W.drew g f0 f1 f2 := h
theorem IsS48.at_ {w0 W : World} {g : Nat} {f0 : List Int} {f1 : Int} {f2 : Int} {w' : World} {m : Nat} (hq : W.drewN m = w') (h : IsS48 w0 W g f0 f1 f2) : IsS48 w0 w' g f0 f1 f2 := by subst hq; exact IsS48.drewN h m
theorem IsS48.apart {w0 W : World} {g : Nat} {f0 : List Int} {f1 : Int} {f2 : Int} {α : Type} {d : Kd α} {e : Nat} {base : Nat} {ok : Nat → Prop} {v : Value} {xs : List α} (h : IsS48 w0 W g f0 f1 f2) (ho : d.R e W base ok v xs) (ht : ∀ q, q ∈ e :: d.E → q ≠ 48) : d.R e W base (fun k => ok k ∧ k ≠ g) v xs := by
 obtain ⟨A0, c0, hb, hg, hr0⟩ := h
 exact Kd.R_types ho hb ht
theorem IsS48.lt {w0 W : World} {g : Nat} {f0 : List Int} {f1 : Int} {f2 : Int} (h : IsS48 w0 W g f0 f1 f2) : g < W.heap.size := by
 obtain ⟨A0, c0, hb, hg, hr0⟩ := h
 exact blk_lt hb
end Go.Proofs.Ytlokjgngjgbpmaa.G
