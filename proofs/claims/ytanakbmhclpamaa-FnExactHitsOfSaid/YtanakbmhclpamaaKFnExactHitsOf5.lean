/- Part 5 of the claim FnExactHitsOf, merged by pack.py (this session's program) out of: the print's words, cut to what is needed; texts that gen.py printed (it runs the kit's print in place); texts of this session. -/
import Derived.Test.YtanakbmhclpamaaKFnExactHitsOf1
import Derived.Test.YtanakbmhclpamaaKFnExactHitsOf3
import Derived.Test.YtanakbmhclpamaaKFnExactHitsOf4
namespace Go.Proofs.Ytanakbmhclpamaa.Mm
end Go.Proofs.Ytanakbmhclpamaa.Mm
namespace Go.Proofs.Ytanakbmhclpamaa.Sh
end Go.Proofs.Ytanakbmhclpamaa.Sh
namespace Go.Proofs.Ytanakbmhclpamaa.G
open Go.RowKit Go.Proofs.YtanakbmhclpamaaW.PrintWords Go.Proofs.YtanakbmhclpamaaW.PrintLast Go.Proofs.YtanakbmhclpamaaW.PrintMore Go.Proofs.Ytanakbmhclpamaa.Sh
attribute [local go_sem] max2_int min2_int max_two min_two max_three min_three max_four min_four
set_option linter.unusedVariables false
set_option linter.unusedSimpArgs false
open Go.Proofs.Ytanakbmhclpamaa.Mm
def impl_asked.l0 : Nat → List Bool → Int → List ByteArray → Int → Int → Int → Int → List (S76) → Int → Int → List (S76) → List (S76) → List Int → Option (Int × Int × (List (S76)) × Int × Int × (List (S76)) × (List (S76)) × List Int × List Bool × Int)
 | 0, _, _, _, _, _, _, _, _, _, _, _, _, _ => none
 | k + 1, x8, x9, x17, x18, x19, x1161000, x1161001, x1161002, x1161003, x1161004, x1161005, x1161006, x1161007 => if x19 < x18 then (if 0 ≤ x19 then (if x19 < (x17.length : Int) then ((impl_cache_ask.f k x1161000 x1161001 x1161002 x1161003 x1161004 x1161005 x1161006 x1161007 (rdOf ByteArray.empty x17 x19)).bind fun bt1165 => (if x8.length < 140737488355328 then (impl_asked.l0 k (x8 ++ [bt1165.2.2.2.2.2.2.2.2.1]) (wrap64 (x9 + bt1165.2.2.2.2.2.2.2.2.2)) x17 x18 (wrap64 (x19 + 1)) bt1165.1 bt1165.2.1 bt1165.2.2.1 bt1165.2.2.2.1 bt1165.2.2.2.2.1 bt1165.2.2.2.2.2.1 bt1165.2.2.2.2.2.2.1 bt1165.2.2.2.2.2.2.2.1) else (none))) else (none)) else (none)) else (some (x1161000, x1161001, x1161002, x1161003, x1161004, x1161005, x1161006, x1161007, x8, x9))
def impl_asked.f (k : Nat) (a0_0 : Int) (a0_1 : Int) (a0_2 : Int) (l1 : List ByteArray) : Option (Int × Int × (List (S76)) × Int × Int × (List (S76)) × (List (S76)) × List Int × List Bool × Int) := (impl_cacheOf.f k a0_0 a0_1 a0_2).bind fun bt1144 => (impl_asked.l0 k (([] : List Bool)) 0 l1 (l1.length : Int) 0 bt1144.1 bt1144.2.1 bt1144.2.2.1 bt1144.2.2.2.1 bt1144.2.2.2.2.1 bt1144.2.2.2.2.2.1 bt1144.2.2.2.2.2.2.1 bt1144.2.2.2.2.2.2.2)
theorem impl_asked.mono_l : ∀ k, (∀ y0 y1 y2 y3 y4 y5 y6 y7 y8 y9 y10 y11 y12, LeO (impl_asked.l0 k y0 y1 y2 y3 y4 y5 y6 y7 y8 y9 y10 y11 y12) (impl_asked.l0 (k + 1) y0 y1 y2 y3 y4 y5 y6 y7 y8 y9 y10 y11 y12))
 | 0 => fun _ _ _ _ _ _ _ _ _ _ _ _ _ r h => by simp [impl_asked.l0] at h
 | k + 1 => by
  have ih0 := impl_asked.mono_l k
  ·intro y0 y1 y2 y3 y4 y5 y6 y7 y8 y9 y10 y11 y12
   unfold impl_asked.l0
   repeat' first | (with_reducible first | exact ih0 _ _ _ _ _ _ _ _ _ _ _ _ _ | exact impl_cacheOf.mono _ _ _ _ | exact impl_cache_ask.mono _ _ _ _ _ _ _ _ _ _ | exact LeO.refl _ | exact LeO.none _ | refine LeO.ite ?_ ?_ | refine LeO.bind ?_ (fun _ => ?_)) | exact LeO.none _ | refine LeO.ite ?_ ?_ | refine LeO.bind ?_ (fun _ => ?_)
theorem impl_asked.mono : ∀ a0 a1 a2 a3 k, LeO (impl_asked.f k a0 a1 a2 a3) (impl_asked.f (k + 1) a0 a1 a2 a3) := by
 intro a0 a1 a2 a3 k
 have ih0 := impl_asked.mono_l k
 unfold impl_asked.f
 repeat' first | (with_reducible first | exact ih0 _ _ _ _ _ _ _ _ _ _ _ _ _ | exact impl_cacheOf.mono _ _ _ _ | exact impl_cache_ask.mono _ _ _ _ _ _ _ _ _ _ | exact LeO.refl _ | exact LeO.none _ | refine LeO.ite ?_ ?_ | refine LeO.bind ?_ (fun _ => ?_)) | exact LeO.none _ | refine LeO.ite ?_ ?_ | refine LeO.bind ?_ (fun _ => ?_)
set_option maxHeartbeats 8000000 in
set_option maxRecDepth 100000 in
theorem impl_asked.calls (k : Nat) (a0_0 : Int) (a0_1 : Int) (a0_2 : Int) (A1 : Option Addr) (c1 : Nat) (l1 : List ByteArray) (r1 : Int) (r2 : Int) (r3 : List (S76)) (r4 : Int) (r5 : Int) (r6 : List (S76)) (r7 : List (S76)) (r8 : List Int) (r9 : List Bool) (r10 : Int) (w : World) (hr1 : Kd.C Kd.string w A1 l1.length l1) (hc1 : l1.length ≤ c1) (h : impl_asked.f k a0_0 a0_1 a0_2 l1 = some (r1, r2, r3, r4, r5, r6, r7, r8, r9, r10)) :
  Calls Try.prog 50 #[.agg #[.int .i64 a0_0, .int .i64 a0_1, .int .i64 a0_2], .slice A1 l1.length c1] w fun e w' => ∃ v2_ v5_ v6_ v7_ v8_ : Value, ∃ g_ : Nat, e = .returned (.tuple #[.pointer (some ⟨g_, 0, none⟩), v8_, .int .i64 r10]) ∧ Mem w [] w' [rowR k76 76 v2_ r3, rowR k76 76 v5_ r6, rowR k76 76 v6_ r7, rowR (Kd.int .i64) 3 v7_ r8, rowR Kd.bool 4 v8_ r9, box 101 g_ [.int .i64 r1, .int .i64 r2, v2_, .int .i64 r4, .int .i64 r5, v5_, v6_, v7_]] := by
 have hu28 := Try.underlying28
 have HR1 := Aside0.mk hr1
 have HC1 := Aside0.mk hc1
 clear hr1 hc1
 have HM := Mem.nil w
 have H := h
 clear h
 unfold impl_asked.f at H
 go_enter Try.func50, Try.ntmps50
 replace H := BN H; obtain ⟨⟨t1144, t1145, t1146, t1149, t1150, t1151, t1154, t1157⟩, A5, H⟩ := H
 have H' := Aside0.mk H
 clear H
 go_wp2_with (first | ((with_reducible refine gN 2 rfl ?_); refine pB 2 28 [.int .i64 a0_0, .int .i64 a0_1, .int .i64 a0_2] HM rfl ?_; clear HM; intro gb1143 w3 HM; obtain ⟨z4_0, z4_1, z4_2, Z4_0, Z4_1, Z4_2⟩ := bk3 (HM.bx 0 rfl)) | ((with_reducible refine gC 75 rfl ?_); refine pC (some 15) rfl #[.agg #[.int .i64 a0_0, .int .i64 a0_1, .int .i64 a0_2]] rfl Try.func75 (impl_cacheOf.calls k a0_0 a0_1 a0_2 t1144 t1145 t1146 t1149 t1150 t1151 t1154 t1157 _ A5.out) ?_; rintro e w6 ⟨v1147, v1152, v1155, v1158, gb1160, rfl, hR⟩; refine ⟨_, rfl, ?_⟩; replace HM := HM.call hR; clear hR) | ((with_reducible refine gN 16 rfl ?_); refine pL 16 Kd.bool 4 ([] : List Bool) [] (Reps.none _ _) HM rfl ?_; clear HM; intro v1162 w7 HM))
 go_loopg [8, 9, 19] k (fun kq v8 v9 v19 w' => ∃ (x8_1 : List Bool) (x9_1 : Int) (x19_1 : Int) (x1161000_1 : Int) (x1161001_1 : Int) (x1161002_1 : List (S76)) (x1161003_1 : Int) (x1161004_1 : Int) (x1161005_1 : List (S76)) (x1161006_1 : List (S76)) (x1161007_1 : List Int) (u1161002 : Value) (u1161005 : Value) (u1161006 : Value) (u1161007 : Value), v9 = .int .i64 x9_1 ∧ v19 = .int .i64 x19_1 ∧ Aside0 (impl_asked.l0 kq x8_1 x9_1 l1 (l1.length : Int) x19_1 x1161000_1 x1161001_1 x1161002_1 x1161003_1 x1161004_1 x1161005_1 x1161006_1 x1161007_1 = some (r1, r2, r3, r4, r5, r6, r7, r8, r9, r10)) ∧ Aside0 (kq ≤ k) ∧ Mem w [] w' [rowR Kd.bool 4 v8 x8_1, rowR k76 76 u1161002 x1161002_1, rowR k76 76 u1161005 x1161005_1, rowR k76 76 u1161006 x1161006_1, rowR (Kd.int .i64) 3 u1161007 x1161007_1, box 28 gb1143 [.int .i64 a0_0, .int .i64 a0_1, .int .i64 a0_2], box 101 gb1160 [.int .i64 x1161000_1, .int .i64 x1161001_1, u1161002, .int .i64 x1161003_1, .int .i64 x1161004_1, u1161005, u1161006, u1161007]])
 case atStart => exact ⟨((([] : List Bool))), (0), (0), (t1144), (t1145), (t1146), (t1149), (t1150), (t1151), (t1154), (t1157), (v1147), (v1152), (v1155), (v1158), RS, RS, H', ⟨Nat.le_refl _⟩, (MD HM).pick [6, 1, 2, 3, 4, 0, 5]⟩
 case round =>
  clear H' HM
  obtain ⟨x8_1, x9_1, x19_1, x1161000_1, x1161001_1, x1161002_1, x1161003_1, x1161004_1, x1161005_1, x1161006_1, x1161007_1, u1161002, u1161005, u1161006, u1161007, rfl, rfl, HA, HK1, HM⟩ := hrel
  cases gk with
  | zero => exact absurd HA.out (by simp [impl_asked.l0])
  | succ k1 =>
   have H := HA.out
   clear HA
   simp only [impl_asked.l0] at H
   go_upto_if 20 with (fail)
   replace H := IT H; rcases H with ⟨c8, H⟩ | ⟨c8, H⟩
   ·have c8b0 : decide (x19_1 < (l1.length : Int)) = true := decide_eq_true c8
    clear c8
    (first | rw [c8b0] | (simp only [i64_w, i32_w]; rw [c8b0]) | skip)
    replace H := GD H; obtain ⟨c9, H⟩ := H
    have c9b0 : decide (0 ≤ x19_1) = true := decide_eq_true c9
    clear c9
    replace H := GD H; obtain ⟨c10, H⟩ := H
    have c10b0 : decide (x19_1 < (l1.length : Int)) = true := decide_eq_true c10
    clear c10
    replace H := BN H; obtain ⟨⟨t1165, t1166, t1167, t1170, t1171, t1172, t1175, t1178, t1181, t1182⟩, A11, H⟩ := H
    replace H := GD H; obtain ⟨c13, H⟩ := H
    have LMc13 := Aside0.mk c13
    clear c13
    have H' := Aside0.mk H
    clear H
    have p1164 : 0 ≤ (x19_1 : Int) := of_decide_eq_true AS
    have q1164 : (x19_1 : Int) < (l1.length : Int) := of_decide_eq_true AS
    obtain ⟨ad1164, e1164, hx1164_0⟩ := Kd.at_string (HM.came HR1.out) x19_1 p1164 q1164
    cases e1164
    replace p1164 := eq_true p1164
    replace q1164 := eq_true q1164
    go_wp2_with (first | ((with_reducible refine gC 76 rfl ?_); refine pC (some 26) rfl #[.pointer (some ⟨gb1160, 0, none⟩), .string (rdOf ByteArray.empty l1 x19_1)] rfl Try.func76 (impl_cache_ask.calls k1 gb1160 x1161000_1 x1161001_1 u1161002 x1161002_1 x1161003_1 x1161004_1 u1161005 x1161005_1 u1161006 x1161006_1 u1161007 x1161007_1 (rdOf ByteArray.empty l1 x19_1) t1165 t1166 t1167 t1170 t1171 t1172 t1175 t1178 t1181 t1182 _ _ _ (HM.focus [0, 5] [1, 2, 3, 4, 6]) A11.out) ?_; rintro e w12 ⟨v1168, v1173, v1176, v1179, rfl, hR⟩; refine ⟨_, rfl, ?_⟩; replace HM := nzM hR.unfocus; clear hR) | ((with_reducible refine gN 31 rfl ?_); refine pL 31 Kd.bool 4 [t1181] [.bool t1181] (Reps.one (show Kd.M Kd.bool _ _ _ t1181 [.bool t1181] from rfl) (Reps.none _ _)) HM rfl ?_; clear HM; intro v15 w14 HM; obtain ⟨Xv15, kv15, ev15⟩ := HM.rdR 7 rfl; subst ev15) | ((with_reducible refine gate_builtin (b := .append) (xs := #[.tmp 29, .tmp 31]) rfl ?_); refine pA 0 (.tmp 29) (.tmp 31) 26 4 Kd.bool u8 x8_1 [t1181] Xv15 ([t1181].length) kv15 HM rfl Try.underlying26 info4 rfl (HM.CR 7 rfl).2.2 (by have h_ := LMc13.out; simp only [List.length_singleton]; omega) ?_; clear HM; intro v1184 w16 HM))
    go_roundg k1
    case measure => have := HK1.out; omega
    case rel => exact ⟨((x8_1 ++ [t1181])), (wrap64 (x9_1 + t1182)), (wrap64 (x19_1 + 1)), (t1165), (t1166), (t1167), (t1170), (t1171), (t1172), (t1175), (t1178), (v1168), (v1173), (v1176), (v1179), RS, RS, H', ⟨by have := HK1.out; omega⟩, (MD HM).pick [0, 2, 3, 4, 5, 1, 6]⟩
   ·have c8b0 : decide (x19_1 < (l1.length : Int)) = false := decide_eq_false c8
    clear c8
    (first | rw [c8b0] | (simp only [i64_w, i32_w]; rw [c8b0]) | skip)
    simp only [Option.some.injEq, Prod.mk.injEq] at H
    obtain ⟨rfl, rfl, rfl, rfl, rfl, rfl, rfl, rfl, rfl, rfl⟩ := H
    go_wp2
    go_ret3
    exact ⟨_, _, _, _, _, _, ER, (MD HM).pick [1, 2, 3, 4, 0, 6]⟩
def impl_HitsOf.f (k : Nat) (a0_0 : Int) (a0_1 : Int) (a0_2 : Int) (l1 : List ByteArray) : Option (List Bool) := (impl_SetupOk.f k a0_0 a0_1 a0_2).bind fun t1187 => (if t1187 = true then ((impl_AsksOk.f k l1).bind fun t1188 => (if t1188 = true then ((impl_asked.f k a0_0 a0_1 a0_2 l1).bind fun bt1189 => (some bt1189.2.2.2.2.2.2.2.2.1)) else (some ([] : List Bool)))) else (some ([] : List Bool)))
theorem impl_HitsOf.mono : ∀ a0 a1 a2 a3 k, LeO (impl_HitsOf.f k a0 a1 a2 a3) (impl_HitsOf.f (k + 1) a0 a1 a2 a3) := by
 intro a0 a1 a2 a3 k
 unfold impl_HitsOf.f
 repeat' first | (with_reducible first | exact impl_AsksOk.mono _ _ | exact impl_SetupOk.mono _ _ _ _ | exact impl_asked.mono _ _ _ _ _ | exact LeO.refl _ | exact LeO.none _ | refine LeO.ite ?_ ?_ | refine LeO.bind ?_ (fun _ => ?_)) | exact LeO.none _ | refine LeO.ite ?_ ?_ | refine LeO.bind ?_ (fun _ => ?_)
set_option maxHeartbeats 8000000 in
set_option maxRecDepth 100000 in
theorem impl_HitsOf.calls (k : Nat) (a0_0 : Int) (a0_1 : Int) (a0_2 : Int) (A1 : Option Addr) (c1 : Nat) (l1 : List ByteArray) (r : List Bool) (w : World) (hr1 : Kd.C Kd.string w A1 l1.length l1) (hc1 : l1.length ≤ c1) (h : impl_HitsOf.f k a0_0 a0_1 a0_2 l1 = some r) :
  Calls Try.prog 15 #[.agg #[.int .i64 a0_0, .int .i64 a0_1, .int .i64 a0_2], .slice A1 l1.length c1] w fun e w' => ∃ v0_ : Value, e = .returned (v0_) ∧ Mem w [] w' [rowR Kd.bool 4 v0_ r] := by
 have hu28 := Try.underlying28
 have HR1 := Aside0.mk hr1
 have HC1 := Aside0.mk hc1
 clear hr1 hc1
 have HM := Mem.nil w
 have H := h
 clear h
 unfold impl_HitsOf.f at H
 go_enter Try.func15, Try.ntmps15
 replace H := BN H; obtain ⟨t1187, A5, H⟩ := H
 replace H := IB H
 rcases H with ⟨c7, H⟩ | ⟨c7, H⟩
 ·subst c7
  replace H := BN H; obtain ⟨t1188, A8, H⟩ := H
  go_upto_if 15 with (first | ((with_reducible refine gN 2 rfl ?_); refine pB 2 28 [.int .i64 a0_0, .int .i64 a0_1, .int .i64 a0_2] HM rfl ?_; clear HM; intro gb1186 w3 HM; obtain ⟨z4_0, z4_1, z4_2, Z4_0, Z4_1, Z4_2⟩ := bk3 (HM.bx 0 rfl)) | ((with_reducible refine gC 39 rfl ?_); refine pC (some 9) rfl #[.agg #[.int .i64 a0_0, .int .i64 a0_1, .int .i64 a0_2]] rfl Try.func39 (impl_SetupOk.calls k a0_0 a0_1 a0_2 true _ A5.out) ?_; rintro e w6 ⟨rfl, hR⟩; refine ⟨_, rfl, ?_⟩; replace HM := HM.call hR; clear hR) | ((with_reducible refine gC 42 rfl ?_); refine pC (some 13) rfl #[.slice A1 l1.length c1] rfl Try.func42 (impl_AsksOk.calls k _ _ l1 t1188 _ (HM.came HR1.out) HC1.out A8.out) ?_; rintro e w9 ⟨rfl, hR⟩; refine ⟨_, rfl, ?_⟩; replace HM := HM.call hR; clear hR))
  replace HM := nzM HM
  replace H := IB H
  rcases H with ⟨c10, H⟩ | ⟨c10, H⟩
  ·subst c10
   replace H := BN H; obtain ⟨⟨t1189, t1190, t1191, t1194, t1195, t1196, t1199, t1202, t1205, t1208⟩, A12, H⟩ := H
   obtain rfl := Option.some.inj H
   obtain ⟨z11_0, z11_1, z11_2, Z11_0, Z11_1, Z11_2⟩ := bk3 (HM.bx 0 rfl)
   go_wp2_with (first | ((with_reducible refine gC 50 rfl ?_); refine pC (some 19) rfl #[.agg #[.int .i64 a0_0, .int .i64 a0_1, .int .i64 a0_2], .slice A1 l1.length c1] rfl Try.func50 (impl_asked.calls k a0_0 a0_1 a0_2 _ _ l1 t1189 t1190 t1191 t1194 t1195 t1196 t1199 t1202 t1205 t1208 _ (HM.came HR1.out) HC1.out A12.out) ?_; rintro e w13 ⟨v1192, v1197, v1200, v1203, v1206, gb1209, rfl, hR⟩; refine ⟨_, rfl, ?_⟩; replace HM := HM.call hR; clear hR))
   go_ret
   exact ⟨_, ER, (MD HM).pick [5]⟩
  ·subst c10
   obtain rfl := Option.some.inj H
   replace HM := HM.nl Kd.bool 4
   go_wp2
   go_ret
   exact ⟨_, ER, (MD HM).pick [1]⟩
 ·subst c7
  obtain rfl := Option.some.inj H
  go_wp2_with (first | ((with_reducible refine gN 2 rfl ?_); refine pB 2 28 [.int .i64 a0_0, .int .i64 a0_1, .int .i64 a0_2] HM rfl ?_; clear HM; intro gb1186 w3 HM; obtain ⟨z4_0, z4_1, z4_2, Z4_0, Z4_1, Z4_2⟩ := bk3 (HM.bx 0 rfl)) | ((with_reducible refine gC 39 rfl ?_); refine pC (some 9) rfl #[.agg #[.int .i64 a0_0, .int .i64 a0_1, .int .i64 a0_2]] rfl Try.func39 (impl_SetupOk.calls k a0_0 a0_1 a0_2 false _ A5.out) ?_; rintro e w6 ⟨rfl, hR⟩; refine ⟨_, rfl, ?_⟩; replace HM := HM.call hR; clear hR; replace HM := HM.nl Kd.bool 4))
  go_ret
  exact ⟨_, ER, (MD HM).pick [1]⟩
end Go.Proofs.Ytanakbmhclpamaa.G

namespace Go.Proofs.Ytanakbmhclpamaa.G
open Go.RowKit Go.Proofs.YtanakbmhclpamaaW.PrintWords Go.Proofs.YtanakbmhclpamaaW.PrintLast Go.Proofs.YtanakbmhclpamaaW.PrintMore Go.Proofs.Ytanakbmhclpamaa.Sh
attribute [local go_sem] max2_int min2_int max_two min_two max_three min_three max_four min_four
set_option linter.unusedVariables false
set_option linter.unusedSimpArgs false
def laws_eqBoolS.l0 : Nat → List Bool → List Bool → Int → Option (Bool)
 | 0, _, _, _ => none
 | k + 1, x0, x1, x5 => if x5 < (x0.length : Int) then (if 0 ≤ x5 then (if x5 < (x1.length : Int) then (if ((rdOf false x0 x5) != (rdOf false x1 x5)) = true then (none) else (laws_eqBoolS.l0 k x0 x1 (wrap64 (x5 + 1)))) else (none)) else (none)) else (some true)
def laws_eqBoolS.f (k : Nat) (l0 : List Bool) (l1 : List Bool) : Option (Bool) := if (l0.length : Int) = (l1.length : Int) then (laws_eqBoolS.l0 k l0 l1 0) else (none)
theorem laws_eqBoolS.mono_l : ∀ k, (∀ y0 y1 y2, LeO (laws_eqBoolS.l0 k y0 y1 y2) (laws_eqBoolS.l0 (k + 1) y0 y1 y2))
 | 0 => fun _ _ _ r h => by simp [laws_eqBoolS.l0] at h
 | k + 1 => by
  have ih0 := laws_eqBoolS.mono_l k
  ·intro y0 y1 y2
   unfold laws_eqBoolS.l0
   repeat' first | (with_reducible first | exact ih0 _ _ _ | exact LeO.refl _ | exact LeO.none _ | refine LeO.ite ?_ ?_ | refine LeO.bind ?_ (fun _ => ?_)) | exact LeO.none _ | refine LeO.ite ?_ ?_ | refine LeO.bind ?_ (fun _ => ?_)
theorem laws_eqBoolS.mono : ∀ a0 a1 k, LeO (laws_eqBoolS.f k a0 a1) (laws_eqBoolS.f (k + 1) a0 a1) := by
 intro a0 a1 k
 have ih0 := laws_eqBoolS.mono_l k
 unfold laws_eqBoolS.f
 repeat' first | (with_reducible first | exact ih0 _ _ _ | exact LeO.refl _ | exact LeO.none _ | refine LeO.ite ?_ ?_ | refine LeO.bind ?_ (fun _ => ?_)) | exact LeO.none _ | refine LeO.ite ?_ ?_ | refine LeO.bind ?_ (fun _ => ?_)
set_option maxHeartbeats 8000000 in
set_option maxRecDepth 100000 in
theorem laws_eqBoolS.calls (k : Nat) (A0 : Option Addr) (c0 : Nat) (l0 : List Bool) (A1 : Option Addr) (c1 : Nat) (l1 : List Bool) (r : Bool) (w : World) (hr0 : Kd.C Kd.bool w A0 l0.length l0) (hc0 : l0.length ≤ c0) (hr1 : Kd.C Kd.bool w A1 l1.length l1) (hc1 : l1.length ≤ c1) (h : laws_eqBoolS.f k l0 l1 = some r) :
  Calls Try.prog 16 #[.slice A0 l0.length c0, .slice A1 l1.length c1] w fun e w' => e = .returned (.bool r) ∧ Drawn0 w w' := by
 have HR0 := Aside0.mk hr0
 have HC0 := Aside0.mk hc0
 clear hr0 hc0
 have HR1 := Aside0.mk hr1
 have HC1 := Aside0.mk hc1
 clear hr1 hc1
 have H : (if (l0.length : Int) = (l1.length : Int) then (laws_eqBoolS.l0 k l0 l1 0) else (none)) = some r := h
 clear h
 by_cases c3 : (l0.length : Int) = (l1.length : Int)
 ·rw [if_pos c3] at H
  have c3b0 : ((l0.length : Int) == (l1.length : Int)) = true := beq_iff_eq.mpr c3
  have c3b1 : ((l0.length : Int) != (l1.length : Int)) = false := bne_eq_false_iff_eq.mpr c3
  have c3b2 : (l0.length == l1.length) = true := by first | simpa using c3 | (simp at c3 ⊢; omega)
  clear c3
  have H' := Aside0.mk H
  clear H
  go_enter Try.func16, Try.ntmps16
  go_wp2
  repeat (go_quiet (fail); try go_wp2)
  go_loopg [5] k (fun kq v5 w' => ∃ (x5_1 : Int), v5 = .int .i64 x5_1 ∧ Aside0 (laws_eqBoolS.l0 kq l0 l1 x5_1 = some r) ∧ Aside0 (kq ≤ k) ∧ Drawn0 w w')
  case atStart => exact ⟨(0), RS, H', ⟨Nat.le_refl _⟩, DR⟩
  case round =>
   clear H'
   try clear c1
   try clear p2
   try clear c3
   try clear c3b0
   try clear c3b1
   try clear c3b2
   obtain ⟨x5_1, rfl, HA, HK1, ⟨m1, rfl⟩⟩ := hrel
   cases gk with
   | zero => exact absurd HA.out (by simp [laws_eqBoolS.l0])
   | succ k1 =>
    have H := HA.out
    clear HA
    simp only [laws_eqBoolS.l0] at H
    by_cases c4 : x5_1 < (l0.length : Int)
    ·rw [if_pos c4] at H
     have c4b0 : decide (x5_1 < (l0.length : Int)) = true := decide_eq_true c4
     clear c4
     by_cases c5 : 0 ≤ x5_1
     ·rw [if_pos c5] at H
      have c5b0 : decide (0 ≤ x5_1) = true := decide_eq_true c5
      clear c5
      by_cases c6 : x5_1 < (l1.length : Int)
      ·rw [if_pos c6] at H
       have c6b0 : decide (x5_1 < (l1.length : Int)) = true := decide_eq_true c6
       clear c6
       by_cases c7 : ((rdOf false l0 x5_1) != (rdOf false l1 x5_1)) = true
       ·rw [if_pos c7] at H
        exact absurd H (by simp)
       ·rw [if_neg c7] at H
        have c7b0 : ((rdOf false l0 x5_1) != (rdOf false l1 x5_1)) = false := by simpa using c7
        (try (have c7b1 : decide ((rdOf false l0 x5_1) = (rdOf false l1 x5_1)) = true := by simpa using c7))
        (try (have c7b2 : ((rdOf false l0 x5_1) == (rdOf false l1 x5_1)) = true := by simpa using c7))
        clear c7
        have H' := Aside0.mk H
        clear H
        have p1214 : 0 ≤ (x5_1 : Int) := of_decide_eq_true AS
        have q1214 : x5_1 < (l0.length : Int) := of_decide_eq_true AS
        obtain ⟨ad1214, e1214, hx1214_0⟩ := Kd.at_bool HR0.out x5_1 p1214 q1214
        cases e1214
        replace p1214 := eq_true p1214
        replace q1214 := eq_true q1214
        have p1215 : 0 ≤ (x5_1 : Int) := of_decide_eq_true AS
        have q1215 : x5_1 < (l1.length : Int) := of_decide_eq_true AS
        obtain ⟨ad1215, e1215, hx1215_0⟩ := Kd.at_bool HR1.out x5_1 p1215 q1215
        cases e1215
        replace p1215 := eq_true p1215
        replace q1215 := eq_true q1215
        go_wp2
        repeat (go_quiet (fail); try go_wp2)
        go_roundg k1
        case measure => have := HK1.out; omega
        case rel => exact ⟨(wrap64 (x5_1 + 1)), RS, H', ⟨by have := HK1.out; omega⟩, DR⟩
      ·rw [if_neg c6] at H
       exact absurd H (by simp)
     ·rw [if_neg c5] at H
      exact absurd H (by simp)
    ·rw [if_neg c4] at H
     have c4b0 : decide (x5_1 < (l0.length : Int)) = false := decide_eq_false c4
     clear c4
     obtain rfl := Option.some.inj H
     go_wp2
     repeat (go_quiet (fail); try go_wp2)
     go_ret
     exact ⟨by first | rfl | (simp; done) | (simp [*]; done), DR⟩
 ·rw [if_neg c3] at H
  exact absurd H (by simp)
def laws_eqStringS.l0 : Nat → List ByteArray → List ByteArray → Int → Option (Bool)
 | 0, _, _, _ => none
 | k + 1, x0, x1, x5 => if x5 < (x0.length : Int) then (if 0 ≤ x5 then (if x5 < (x1.length : Int) then (if (rdOf ByteArray.empty x0 x5).toList = (rdOf ByteArray.empty x1 x5).toList then (laws_eqStringS.l0 k x0 x1 (wrap64 (x5 + 1))) else (none)) else (none)) else (none)) else (some true)
def laws_eqStringS.f (k : Nat) (l0 : List ByteArray) (l1 : List ByteArray) : Option (Bool) := if (l0.length : Int) = (l1.length : Int) then (laws_eqStringS.l0 k l0 l1 0) else (none)
theorem laws_eqStringS.mono_l : ∀ k, (∀ y0 y1 y2, LeO (laws_eqStringS.l0 k y0 y1 y2) (laws_eqStringS.l0 (k + 1) y0 y1 y2))
 | 0 => fun _ _ _ r h => by simp [laws_eqStringS.l0] at h
 | k + 1 => by
  have ih0 := laws_eqStringS.mono_l k
  ·intro y0 y1 y2
   unfold laws_eqStringS.l0
   repeat' first | (with_reducible first | exact ih0 _ _ _ | exact LeO.refl _ | exact LeO.none _ | refine LeO.ite ?_ ?_ | refine LeO.bind ?_ (fun _ => ?_)) | exact LeO.none _ | refine LeO.ite ?_ ?_ | refine LeO.bind ?_ (fun _ => ?_)
theorem laws_eqStringS.mono : ∀ a0 a1 k, LeO (laws_eqStringS.f k a0 a1) (laws_eqStringS.f (k + 1) a0 a1) := by
 intro a0 a1 k
 have ih0 := laws_eqStringS.mono_l k
 unfold laws_eqStringS.f
 repeat' first | (with_reducible first | exact ih0 _ _ _ | exact LeO.refl _ | exact LeO.none _ | refine LeO.ite ?_ ?_ | refine LeO.bind ?_ (fun _ => ?_)) | exact LeO.none _ | refine LeO.ite ?_ ?_ | refine LeO.bind ?_ (fun _ => ?_)
set_option maxHeartbeats 8000000 in
set_option maxRecDepth 100000 in
theorem laws_eqStringS.calls (k : Nat) (A0 : Option Addr) (c0 : Nat) (l0 : List ByteArray) (A1 : Option Addr) (c1 : Nat) (l1 : List ByteArray) (r : Bool) (w : World) (hr0 : Kd.C Kd.string w A0 l0.length l0) (hc0 : l0.length ≤ c0) (hr1 : Kd.C Kd.string w A1 l1.length l1) (hc1 : l1.length ≤ c1) (h : laws_eqStringS.f k l0 l1 = some r) :
  Calls Try.prog 17 #[.slice A0 l0.length c0, .slice A1 l1.length c1] w fun e w' => e = .returned (.bool r) ∧ Drawn0 w w' := by
 have HR0 := Aside0.mk hr0
 have HC0 := Aside0.mk hc0
 clear hr0 hc0
 have HR1 := Aside0.mk hr1
 have HC1 := Aside0.mk hc1
 clear hr1 hc1
 have H : (if (l0.length : Int) = (l1.length : Int) then (laws_eqStringS.l0 k l0 l1 0) else (none)) = some r := h
 clear h
 by_cases c3 : (l0.length : Int) = (l1.length : Int)
 ·rw [if_pos c3] at H
  have c3b0 : ((l0.length : Int) == (l1.length : Int)) = true := beq_iff_eq.mpr c3
  have c3b1 : ((l0.length : Int) != (l1.length : Int)) = false := bne_eq_false_iff_eq.mpr c3
  have c3b2 : (l0.length == l1.length) = true := by first | simpa using c3 | (simp at c3 ⊢; omega)
  clear c3
  have H' := Aside0.mk H
  clear H
  go_enter Try.func17, Try.ntmps17
  go_wp2
  repeat (go_quiet (fail); try go_wp2)
  go_loopg [5] k (fun kq v5 w' => ∃ (x5_1 : Int), v5 = .int .i64 x5_1 ∧ Aside0 (laws_eqStringS.l0 kq l0 l1 x5_1 = some r) ∧ Aside0 (kq ≤ k) ∧ Drawn0 w w')
  case atStart => exact ⟨(0), RS, H', ⟨Nat.le_refl _⟩, DR⟩
  case round =>
   clear H'
   try clear c1
   try clear p2
   try clear c3
   try clear c3b0
   try clear c3b1
   try clear c3b2
   obtain ⟨x5_1, rfl, HA, HK1, ⟨m1, rfl⟩⟩ := hrel
   cases gk with
   | zero => exact absurd HA.out (by simp [laws_eqStringS.l0])
   | succ k1 =>
    have H := HA.out
    clear HA
    simp only [laws_eqStringS.l0] at H
    by_cases c4 : x5_1 < (l0.length : Int)
    ·rw [if_pos c4] at H
     have c4b0 : decide (x5_1 < (l0.length : Int)) = true := decide_eq_true c4
     clear c4
     by_cases c5 : 0 ≤ x5_1
     ·rw [if_pos c5] at H
      have c5b0 : decide (0 ≤ x5_1) = true := decide_eq_true c5
      clear c5
      by_cases c6 : x5_1 < (l1.length : Int)
      ·rw [if_pos c6] at H
       have c6b0 : decide (x5_1 < (l1.length : Int)) = true := decide_eq_true c6
       clear c6
       by_cases c7 : (rdOf ByteArray.empty l0 x5_1).toList = (rdOf ByteArray.empty l1 x5_1).toList
       ·rw [if_pos c7] at H
        have c7b0 : ((rdOf ByteArray.empty l0 x5_1).toList == (rdOf ByteArray.empty l1 x5_1).toList) = true := beq_iff_eq.mpr c7
        have c7b1 : ((rdOf ByteArray.empty l0 x5_1).toList != (rdOf ByteArray.empty l1 x5_1).toList) = false := bne_eq_false_iff_eq.mpr c7
        clear c7
        have H' := Aside0.mk H
        clear H
        have p1218 : 0 ≤ (x5_1 : Int) := of_decide_eq_true AS
        have q1218 : x5_1 < (l0.length : Int) := of_decide_eq_true AS
        obtain ⟨ad1218, e1218, hx1218_0⟩ := Kd.at_string HR0.out x5_1 p1218 q1218
        cases e1218
        replace p1218 := eq_true p1218
        replace q1218 := eq_true q1218
        have p1219 : 0 ≤ (x5_1 : Int) := of_decide_eq_true AS
        have q1219 : x5_1 < (l1.length : Int) := of_decide_eq_true AS
        obtain ⟨ad1219, e1219, hx1219_0⟩ := Kd.at_string HR1.out x5_1 p1219 q1219
        cases e1219
        replace p1219 := eq_true p1219
        replace q1219 := eq_true q1219
        go_wp2
        repeat (go_quiet (fail); try go_wp2)
        go_roundg k1
        case measure => have := HK1.out; omega
        case rel => exact ⟨(wrap64 (x5_1 + 1)), RS, H', ⟨by have := HK1.out; omega⟩, DR⟩
       ·rw [if_neg c7] at H
        exact absurd H (by simp)
      ·rw [if_neg c6] at H
       exact absurd H (by simp)
     ·rw [if_neg c5] at H
      exact absurd H (by simp)
    ·rw [if_neg c4] at H
     have c4b0 : decide (x5_1 < (l0.length : Int)) = false := decide_eq_false c4
     clear c4
     obtain rfl := Option.some.inj H
     go_wp2
     repeat (go_quiet (fail); try go_wp2)
     go_ret
     exact ⟨by first | rfl | (simp; done) | (simp [*]; done), DR⟩
 ·rw [if_neg c3] at H
  exact absurd H (by simp)
end Go.Proofs.Ytanakbmhclpamaa.G

namespace Go.Proofs.Ytanakbmhclpamaa.G
open Go.RowKit Go.Proofs.YtanakbmhclpamaaW.PrintWords Go.Proofs.YtanakbmhclpamaaW.PrintLast Go.Proofs.YtanakbmhclpamaaW.PrintMore Go.Proofs.Ytanakbmhclpamaa.Sh
attribute [local go_sem] max2_int min2_int max_two min_two max_three min_three max_four min_four
set_option linter.unusedVariables false
set_option linter.unusedSimpArgs false
open Go.Proofs.Ytanakbmhclpamaa.Mm
def laws_markText.l0 : Nat → Int → ByteArray → Option (ByteArray)
 | 0, _, _ => none
 | k + 1, x0, x3 => if x0 > 0 then ((some (([(wrap64 (48 + (Int.tmod x0 10))) % 256] : List Int) : List Int)).bind fun y1220 => (if (strOfNums y1220).size + x3.size ≤ 9223372036854775807 then (laws_markText.l0 k (wrap64 (Int.tdiv x0 10)) ((strOfNums y1220) ++ x3)) else (none))) else (if 1 + x3.size ≤ 9223372036854775807 then (some ((⟨#[109]⟩ : ByteArray) ++ x3)) else (none))
def laws_markText.f (k : Nat) (a0 : Int) : Option (ByteArray) := if a0 ≤ 0 then (some (⟨#[109, 48]⟩ : ByteArray)) else (laws_markText.l0 k a0 (⟨#[]⟩ : ByteArray))
theorem laws_markText.mono_l : ∀ k, (∀ y0 y1, LeO (laws_markText.l0 k y0 y1) (laws_markText.l0 (k + 1) y0 y1))
 | 0 => fun _ _ r h => by simp [laws_markText.l0] at h
 | k + 1 => by
  have ih0 := laws_markText.mono_l k
  ·intro y0 y1
   unfold laws_markText.l0
   repeat' first | (with_reducible first | exact ih0 _ _ | exact LeO.refl _ | exact LeO.none _ | refine LeO.ite ?_ ?_ | refine LeO.bind ?_ (fun _ => ?_)) | exact LeO.none _ | refine LeO.ite ?_ ?_ | refine LeO.bind ?_ (fun _ => ?_)
theorem laws_markText.mono : ∀ a0 k, LeO (laws_markText.f k a0) (laws_markText.f (k + 1) a0) := by
 intro a0 k
 have ih0 := laws_markText.mono_l k
 unfold laws_markText.f
 repeat' first | (with_reducible first | exact ih0 _ _ | exact LeO.refl _ | exact LeO.none _ | refine LeO.ite ?_ ?_ | refine LeO.bind ?_ (fun _ => ?_)) | exact LeO.none _ | refine LeO.ite ?_ ?_ | refine LeO.bind ?_ (fun _ => ?_)
set_option maxHeartbeats 8000000 in
set_option maxRecDepth 100000 in
theorem laws_markText.calls (k : Nat) (a0 : Int) (r : ByteArray) (w : World)  (h : laws_markText.f k a0 = some r) :
  Calls Try.prog 51 #[.int .i64 a0] w fun e w' => e = .returned (.string r) ∧ Mem w [] w' [] := by
 have HM := Mem.nil w
 have H := h
 clear h
 unfold laws_markText.f at H
 go_enter Try.func51, Try.ntmps51
 go_upto_if 5 with (fail)
 replace H := IT H; rcases H with ⟨c2, H⟩ | ⟨c2, H⟩
 ·have c2b0 : decide (a0 ≤ 0) = true := decide_eq_true c2
  clear c2
  (first | rw [c2b0] | (simp only [i64_w, i32_w]; rw [c2b0]) | skip)
  obtain rfl := Option.some.inj H
  go_wp2
  go_ret
  exact ⟨ER, (MD HM).pick []⟩
 ·have c2b0 : decide (a0 ≤ 0) = false := decide_eq_false c2
  clear c2
  (first | rw [c2b0] | (simp only [i64_w, i32_w]; rw [c2b0]) | skip)
  have H' := Aside0.mk H
  clear H
  go_wp2
  go_loopg [0, 3] k (fun kq v0 v3 w' => ∃ (x0_1 : Int) (x3_1 : ByteArray), v0 = .int .i64 x0_1 ∧ v3 = .string x3_1 ∧ Aside0 (laws_markText.l0 kq x0_1 x3_1 = some r) ∧ Aside0 (kq ≤ k) ∧ Mem w [] w' [])
  case atStart => exact ⟨(a0), ((⟨#[]⟩ : ByteArray)), RS, RS, H', ⟨Nat.le_refl _⟩, (MD HM).pick []⟩
  case round =>
   clear H' HM
   obtain ⟨x0_1, x3_1, rfl, rfl, HA, HK1, HM⟩ := hrel
   cases gk with
   | zero => exact absurd HA.out (by simp [laws_markText.l0])
   | succ k1 =>
    have H := HA.out
    clear HA
    simp only [laws_markText.l0] at H
    go_upto_if 7 with (fail)
    replace H := IT H; rcases H with ⟨c3, H⟩ | ⟨c3, H⟩
    ·have c3b0 : decide (0 < x0_1) = true := decide_eq_true c3
     clear c3
     (first | rw [c3b0] | (simp only [i64_w, i32_w]; rw [c3b0]) | skip)
     replace H := BLt H; obtain ⟨y1220, Ny1220, H⟩ := H
     replace Ny1220 := Aside0.mk Ny1220
     replace H := GD H; obtain ⟨c6, H⟩ := H
     have c6b0 := eq_true c6
     have c6b1 : decide ((strOfNums y1220).size + x3_1.size ≤ 9223372036854775807) = true := decide_eq_true c6
     try have c6b2 : (9223372036854775807 < (strOfNums y1220).size + x3_1.size) = False := eq_false (Nat.not_lt.2 c6)
     have H' := Aside0.mk H
     clear H
     go_wp2_with (first | ((with_reducible refine gN 12 rfl ?_); refine pL 12 (Kd.int .u8) 5 ([(wrap64 (48 + (Int.tmod x0_1 10))) % 256] : List Int) [.int .u8 ((wrap64 (48 + (Int.tmod x0_1 10))) % 256)] (Reps.one (show Kd.M (Kd.int .u8) _ _ _ ((wrap64 (48 + (Int.tmod x0_1 10))) % 256) [.int .u8 ((wrap64 (48 + (Int.tmod x0_1 10))) % 256)] from rfl) (Reps.none _ _)) HM rfl ?_; clear HM; intro v1221 w4 HM; replace HM := HM.nm 0 rfl Ny1220.out; have hcv5 := HM.str 0 rfl Try.underlying40 Try.underlying5 Try.underlying9))
     go_roundg k1
     case measure => have := HK1.out; omega
     case rel => exact ⟨(wrap64 (Int.tdiv x0_1 10)), ((strOfNums y1220) ++ x3_1), RS, RS, H', ⟨by have := HK1.out; omega⟩, (MD HM).pick []⟩
    ·have c3b0 : decide (0 < x0_1) = false := decide_eq_false c3
     clear c3
     (first | rw [c3b0] | (simp only [i64_w, i32_w]; rw [c3b0]) | skip)
     replace H := GD H; obtain ⟨c7, H⟩ := H
     have c7b0 := eq_true c7
     have c7b1 : decide (1 + x3_1.size ≤ 9223372036854775807) = true := decide_eq_true c7
     try have c7b2 : (9223372036854775807 < 1 + x3_1.size) = False := eq_false (Nat.not_lt.2 c7)
     obtain rfl := Option.some.inj H
     go_wp2
     go_ret
     exact ⟨ER, (MD HM).pick []⟩
def laws_markStringS.l0 : Nat → List ByteArray → Int → Int → Option (Int × List ByteArray)
 | 0, _, _, _ => none
 | k + 1, x0, x1, x5 => if x5 < (x0.length : Int) then ((laws_markText.f k x1).bind fun t1223 => (if 0 ≤ x5 then (laws_markStringS.l0 k (x0.set (x5 : Int).toNat t1223) (wrap64 (x1 + 1)) (wrap64 (x5 + 1))) else (none))) else (some (x1, x0))
def laws_markStringS.f (k : Nat) (l0 : List ByteArray) (a1 : Int) : Option (Int × List ByteArray) := laws_markStringS.l0 k l0 a1 0
theorem laws_markStringS.mono_l : ∀ k, (∀ y0 y1 y2, LeO (laws_markStringS.l0 k y0 y1 y2) (laws_markStringS.l0 (k + 1) y0 y1 y2))
 | 0 => fun _ _ _ r h => by simp [laws_markStringS.l0] at h
 | k + 1 => by
  have ih0 := laws_markStringS.mono_l k
  ·intro y0 y1 y2
   unfold laws_markStringS.l0
   repeat' first | (with_reducible first | exact ih0 _ _ _ | exact laws_markText.mono _ _ | exact LeO.refl _ | exact LeO.none _ | refine LeO.ite ?_ ?_ | refine LeO.bind ?_ (fun _ => ?_)) | exact LeO.none _ | refine LeO.ite ?_ ?_ | refine LeO.bind ?_ (fun _ => ?_)
theorem laws_markStringS.mono : ∀ a0 a1 k, LeO (laws_markStringS.f k a0 a1) (laws_markStringS.f (k + 1) a0 a1) := by
 intro a0 a1 k
 have ih0 := laws_markStringS.mono_l k
 unfold laws_markStringS.f
 repeat' first | (with_reducible first | exact ih0 _ _ _ | exact laws_markText.mono _ _ | exact LeO.refl _ | exact LeO.none _ | refine LeO.ite ?_ ?_ | refine LeO.bind ?_ (fun _ => ?_)) | exact LeO.none _ | refine LeO.ite ?_ ?_ | refine LeO.bind ?_ (fun _ => ?_)
set_option maxHeartbeats 8000000 in
set_option maxRecDepth 100000 in
theorem laws_markStringS.calls (k : Nat) (u9000_ : Value) (l0 : List ByteArray) (a1 : Int) (r1 : Int) (r2 : List ByteArray) (w0 w : World) (F : List SP)  (hM : Mem w0 F w [rowR Kd.string 9 u9000_ l0]) (h : laws_markStringS.f k l0 a1 = some (r1, r2)) :
  Calls Try.prog 18 #[u9000_, .int .i64 a1] w fun e w' => e = .returned (.int .i64 r1) ∧ Mem w0 F w' [rowR Kd.string 9 u9000_ r2] := by
 have HM := hM
 clear hM
 have H := h
 clear h
 unfold laws_markStringS.f at H
 go_enter Try.func18, Try.ntmps18
 have H' := Aside0.mk H
 clear H
 go_wp2
 go_loopg [1, 5] k (fun kq v1 v5 w' => ∃ (x0_1 : List ByteArray) (x1_1 : Int) (x5_1 : Int), v1 = .int .i64 x1_1 ∧ v5 = .int .i64 x5_1 ∧ Aside0 (laws_markStringS.l0 kq x0_1 x1_1 x5_1 = some (r1, r2)) ∧ Aside0 (kq ≤ k) ∧ Mem w0 F w' [rowR Kd.string 9 u9000_ x0_1])
 case atStart => exact ⟨(l0), (a1), (0), RS, RS, H', ⟨Nat.le_refl _⟩, (MD HM).pick [0]⟩
 case round =>
  clear H' HM
  obtain ⟨x0_1, x1_1, x5_1, rfl, rfl, HA, HK1, HM⟩ := hrel
  cases gk with
  | zero => exact absurd HA.out (by simp [laws_markStringS.l0])
  | succ k1 =>
   have H := HA.out
   clear HA
   simp only [laws_markStringS.l0] at H
   obtain ⟨Xo3, ko3, eo3⟩ := HM.rdR 0 rfl
   subst eo3
   go_upto_if 9 with (fail)
   replace H := IT H; rcases H with ⟨c4, H⟩ | ⟨c4, H⟩
   ·have c4b0 : decide (x5_1 < (x0_1.length : Int)) = true := decide_eq_true c4
    clear c4
    (first | rw [c4b0] | (simp only [i64_w, i32_w]; rw [c4b0]) | skip)
    replace H := BN H; obtain ⟨t1223, A5, H⟩ := H
    replace H := GD H; obtain ⟨c7, H⟩ := H
    have c7b0 : decide (0 ≤ x5_1) = true := decide_eq_true c7
    clear c7
    have H' := Aside0.mk H
    clear H
    go_wp2_with (first | ((with_reducible refine gC 51 rfl ?_); refine pC (some 15) rfl #[.int .i64 x1_1] rfl Try.func51 (laws_markText.calls k1 x1_1 t1223 _ A5.out) ?_; rintro e w6 ⟨rfl, hR⟩; refine ⟨_, rfl, ?_⟩; replace HM := HM.call hR; clear hR; have p8 : 0 ≤ (x5_1 : Int) := of_decide_eq_true AS; have q8 : (x5_1 : Int) < ((x0_1.length : Int) : Int) := of_decide_eq_true AS; obtain ⟨go8, ef8⟩ := HM.form 0 rfl (by have h_ := (HM.CR 0 rfl).1; omega); subst ef8; obtain ⟨hcc8, hfr8⟩ := HM.el 0 rfl (⟨#[]⟩ : ByteArray) (x5_1 : Int) p8 (by have h_ := (HM.CR 0 rfl).1; omega) [.string (rdOf ByteArray.empty x0_1 x5_1)] (fun _ _ h => h); have hx8_0 : w6.cell? ⟨go8, (x5_1 : Int).toNat, none⟩ = some (.string (rdOf ByteArray.empty x0_1 x5_1)) := (by have h_ := hcc8 0 _ rfl; first | exact h_ | (simp only [show (Kd.string).sz = 1 from rfl, Nat.mul_one, Nat.add_zero] at h_; exact h_) | simpa using h_); have hf8_0 : w6.frozen? ⟨go8, (x5_1 : Int).toNat, none⟩ = false := (by have h_ := hfr8 0; first | exact h_ | (simp only [show (Kd.string).sz = 1 from rfl, Nat.mul_one, Nat.add_zero] at h_; exact h_) | simpa using h_); clear hcc8 hfr8; replace p8 := eq_true p8; replace q8 := eq_true q8) | ((with_reducible refine gS 16 rfl ?_); refine pPR 0 16 (x5_1 : Int) 0 [.string t1223] Kd.string 9 x0_1 t1223 (⟨#[]⟩ : ByteArray) [.string (rdOf ByteArray.empty x0_1 x5_1)] HM rfl rfl (of_decide_eq_true AS) (by have h_ : (x5_1 : Int) < ((x0_1.length : Int) : Int) := of_decide_eq_true AS; have e_ := (HM.CR 0 rfl).1; omega) (fun _ _ h => h) rfl ?_; clear HM; intro w9 HM))
    go_roundg k1
    case measure => have := HK1.out; omega
    case rel => exact ⟨((x0_1.set (x5_1 : Int).toNat t1223)), (wrap64 (x1_1 + 1)), (wrap64 (x5_1 + 1)), RS, RS, H', ⟨by have := HK1.out; omega⟩, (MD HM).pick [0]⟩
   ·have c4b0 : decide (x5_1 < (x0_1.length : Int)) = false := decide_eq_false c4
    clear c4
    (first | rw [c4b0] | (simp only [i64_w, i32_w]; rw [c4b0]) | skip)
    simp only [Option.some.injEq, Prod.mk.injEq] at H
    obtain ⟨rfl, rfl⟩ := H
    go_wp2
    go_ret
    exact ⟨ER, (MD HM).pick [0]⟩
def laws_markBoolS.l0 : Nat → List Bool → Int → Int → Option (Int × List Bool)
 | 0, _, _, _ => none
 | k + 1, x0, x1, x5 => if x5 < (x0.length : Int) then (if 0 ≤ x5 then (laws_markBoolS.l0 k (x0.set (x5 : Int).toNat ((Int.tmod x1 3) == 0)) (wrap64 (x1 + 1)) (wrap64 (x5 + 1))) else (none)) else (some (x1, x0))
def laws_markBoolS.f (k : Nat) (l0 : List Bool) (a1 : Int) : Option (Int × List Bool) := laws_markBoolS.l0 k l0 a1 0
theorem laws_markBoolS.mono_l : ∀ k, (∀ y0 y1 y2, LeO (laws_markBoolS.l0 k y0 y1 y2) (laws_markBoolS.l0 (k + 1) y0 y1 y2))
 | 0 => fun _ _ _ r h => by simp [laws_markBoolS.l0] at h
 | k + 1 => by
  have ih0 := laws_markBoolS.mono_l k
  ·intro y0 y1 y2
   unfold laws_markBoolS.l0
   repeat' first | (with_reducible first | exact ih0 _ _ _ | exact LeO.refl _ | exact LeO.none _ | refine LeO.ite ?_ ?_ | refine LeO.bind ?_ (fun _ => ?_)) | exact LeO.none _ | refine LeO.ite ?_ ?_ | refine LeO.bind ?_ (fun _ => ?_)
theorem laws_markBoolS.mono : ∀ a0 a1 k, LeO (laws_markBoolS.f k a0 a1) (laws_markBoolS.f (k + 1) a0 a1) := by
 intro a0 a1 k
 have ih0 := laws_markBoolS.mono_l k
 unfold laws_markBoolS.f
 repeat' first | (with_reducible first | exact ih0 _ _ _ | exact LeO.refl _ | exact LeO.none _ | refine LeO.ite ?_ ?_ | refine LeO.bind ?_ (fun _ => ?_)) | exact LeO.none _ | refine LeO.ite ?_ ?_ | refine LeO.bind ?_ (fun _ => ?_)
set_option maxHeartbeats 8000000 in
set_option maxRecDepth 100000 in
theorem laws_markBoolS.calls (k : Nat) (u9000_ : Value) (l0 : List Bool) (a1 : Int) (r1 : Int) (r2 : List Bool) (w0 w : World) (F : List SP)  (hM : Mem w0 F w [rowR Kd.bool 4 u9000_ l0]) (h : laws_markBoolS.f k l0 a1 = some (r1, r2)) :
  Calls Try.prog 19 #[u9000_, .int .i64 a1] w fun e w' => e = .returned (.int .i64 r1) ∧ Mem w0 F w' [rowR Kd.bool 4 u9000_ r2] := by
 have HM := hM
 clear hM
 have H := h
 clear h
 unfold laws_markBoolS.f at H
 go_enter Try.func19, Try.ntmps19
 have H' := Aside0.mk H
 clear H
 go_wp2
 go_loopg [1, 5] k (fun kq v1 v5 w' => ∃ (x0_1 : List Bool) (x1_1 : Int) (x5_1 : Int), v1 = .int .i64 x1_1 ∧ v5 = .int .i64 x5_1 ∧ Aside0 (laws_markBoolS.l0 kq x0_1 x1_1 x5_1 = some (r1, r2)) ∧ Aside0 (kq ≤ k) ∧ Mem w0 F w' [rowR Kd.bool 4 u9000_ x0_1])
 case atStart => exact ⟨(l0), (a1), (0), RS, RS, H', ⟨Nat.le_refl _⟩, (MD HM).pick [0]⟩
 case round =>
  clear H' HM
  obtain ⟨x0_1, x1_1, x5_1, rfl, rfl, HA, HK1, HM⟩ := hrel
  cases gk with
  | zero => exact absurd HA.out (by simp [laws_markBoolS.l0])
  | succ k1 =>
   have H := HA.out
   clear HA
   simp only [laws_markBoolS.l0] at H
   obtain ⟨Xo3, ko3, eo3⟩ := HM.rdR 0 rfl
   subst eo3
   go_upto_if 9 with (fail)
   replace H := IT H; rcases H with ⟨c4, H⟩ | ⟨c4, H⟩
   ·have c4b0 : decide (x5_1 < (x0_1.length : Int)) = true := decide_eq_true c4
    clear c4
    (first | rw [c4b0] | (simp only [i64_w, i32_w]; rw [c4b0]) | skip)
    replace H := GD H; obtain ⟨c5, H⟩ := H
    have c5b0 : decide (0 ≤ x5_1) = true := decide_eq_true c5
    clear c5
    have H' := Aside0.mk H
    clear H
    have p6 : 0 ≤ (x5_1 : Int) := of_decide_eq_true AS
    have q6 : (x5_1 : Int) < ((x0_1.length : Int) : Int) := of_decide_eq_true AS
    obtain ⟨go6, ef6⟩ := HM.form 0 rfl (by have h_ := (HM.CR 0 rfl).1; omega)
    subst ef6
    obtain ⟨hcc6, hfr6⟩ := HM.el 0 rfl false (x5_1 : Int) p6 (by have h_ := (HM.CR 0 rfl).1; omega) [.bool (rdOf false x0_1 x5_1)] (fun _ _ h => h)
    have hx6_0 : wr.cell? ⟨go6, (x5_1 : Int).toNat, none⟩ = some (.bool (rdOf false x0_1 x5_1)) := (by have h_ := hcc6 0 _ rfl; first | exact h_ | (simp only [show (Kd.bool).sz = 1 from rfl, Nat.mul_one, Nat.add_zero] at h_; exact h_) | simpa using h_)
    have hf6_0 : wr.frozen? ⟨go6, (x5_1 : Int).toNat, none⟩ = false := (by have h_ := hfr6 0; first | exact h_ | (simp only [show (Kd.bool).sz = 1 from rfl, Nat.mul_one, Nat.add_zero] at h_; exact h_) | simpa using h_)
    clear hcc6 hfr6
    replace p6 := eq_true p6
    replace q6 := eq_true q6
    go_wp2_with (first | ((with_reducible refine gS 17 rfl ?_); refine pPR 0 17 (x5_1 : Int) 0 [.bool ((Int.tmod x1_1 3) == 0)] Kd.bool 4 x0_1 ((Int.tmod x1_1 3) == 0) false [.bool (rdOf false x0_1 x5_1)] HM rfl rfl (of_decide_eq_true AS) (by have h_ : (x5_1 : Int) < ((x0_1.length : Int) : Int) := of_decide_eq_true AS; have e_ := (HM.CR 0 rfl).1; omega) (fun _ _ h => h) rfl ?_; clear HM; intro w7 HM))
    go_roundg k1
    case measure => have := HK1.out; omega
    case rel => exact ⟨((x0_1.set (x5_1 : Int).toNat ((Int.tmod x1_1 3) == 0))), (wrap64 (x1_1 + 1)), (wrap64 (x5_1 + 1)), RS, RS, H', ⟨by have := HK1.out; omega⟩, (MD HM).pick [0]⟩
   ·have c4b0 : decide (x5_1 < (x0_1.length : Int)) = false := decide_eq_false c4
    clear c4
    (first | rw [c4b0] | (simp only [i64_w, i32_w]; rw [c4b0]) | skip)
    simp only [Option.some.injEq, Prod.mk.injEq] at H
    obtain ⟨rfl, rfl⟩ := H
    go_wp2
    go_ret
    exact ⟨ER, (MD HM).pick [0]⟩
end Go.Proofs.Ytanakbmhclpamaa.G

namespace Go.Proofs.Ytanakbmhclpamaa.G
open Go.RowKit Go.Proofs.YtanakbmhclpamaaW.PrintWords Go.Proofs.YtanakbmhclpamaaW.PrintLast Go.Proofs.YtanakbmhclpamaaW.PrintMore Go.Proofs.Ytanakbmhclpamaa.Sh
attribute [local go_sem] max2_int min2_int max_two min_two max_three min_three max_four min_four
set_option linter.unusedVariables false
set_option linter.unusedSimpArgs false
def laws_heldBoolS.l0 : Nat → List Bool → Int → Int → Option (Int)
 | 0, _, _, _ => none
 | k + 1, x0, x1, x5 => if x5 < (x0.length : Int) then (if 0 ≤ x5 then (if ((rdOf false x0 x5) != ((Int.tmod x1 3) == 0)) = true then (none) else (laws_heldBoolS.l0 k x0 (wrap64 (x1 + 1)) (wrap64 (x5 + 1)))) else (none)) else (some x1)
def laws_heldBoolS.f (k : Nat) (l0 : List Bool) (a1 : Int) : Option (Int) := laws_heldBoolS.l0 k l0 a1 0
theorem laws_heldBoolS.mono_l : ∀ k, (∀ y0 y1 y2, LeO (laws_heldBoolS.l0 k y0 y1 y2) (laws_heldBoolS.l0 (k + 1) y0 y1 y2))
 | 0 => fun _ _ _ r h => by simp [laws_heldBoolS.l0] at h
 | k + 1 => by
  have ih0 := laws_heldBoolS.mono_l k
  ·intro y0 y1 y2
   unfold laws_heldBoolS.l0
   repeat' first | (with_reducible first | exact ih0 _ _ _ | exact LeO.refl _ | exact LeO.none _ | refine LeO.ite ?_ ?_ | refine LeO.bind ?_ (fun _ => ?_)) | exact LeO.none _ | refine LeO.ite ?_ ?_ | refine LeO.bind ?_ (fun _ => ?_)
theorem laws_heldBoolS.mono : ∀ a0 a1 k, LeO (laws_heldBoolS.f k a0 a1) (laws_heldBoolS.f (k + 1) a0 a1) := by
 intro a0 a1 k
 have ih0 := laws_heldBoolS.mono_l k
 unfold laws_heldBoolS.f
 repeat' first | (with_reducible first | exact ih0 _ _ _ | exact LeO.refl _ | exact LeO.none _ | refine LeO.ite ?_ ?_ | refine LeO.bind ?_ (fun _ => ?_)) | exact LeO.none _ | refine LeO.ite ?_ ?_ | refine LeO.bind ?_ (fun _ => ?_)
set_option maxHeartbeats 8000000 in
set_option maxRecDepth 100000 in
theorem laws_heldBoolS.calls (k : Nat) (A0 : Option Addr) (c0 : Nat) (l0 : List Bool) (a1 : Int) (r : Int) (w : World) (hr0 : Kd.C Kd.bool w A0 l0.length l0) (hc0 : l0.length ≤ c0) (h : laws_heldBoolS.f k l0 a1 = some r) :
  Calls Try.prog 20 #[.slice A0 l0.length c0, .int .i64 a1] w fun e w' => e = .returned (.int .i64 r) ∧ Drawn0 w w' := by
 have HR0 := Aside0.mk hr0
 have HC0 := Aside0.mk hc0
 clear hr0 hc0
 have H : (laws_heldBoolS.l0 k l0 a1 0) = some r := h
 clear h
 have H' := Aside0.mk H
 clear H
 go_enter Try.func20, Try.ntmps20
 go_wp2
 go_loopg [1, 5] k (fun kq v1 v5 w' => ∃ (x1_1 : Int) (x5_1 : Int), v1 = .int .i64 x1_1 ∧ v5 = .int .i64 x5_1 ∧ Aside0 (laws_heldBoolS.l0 kq l0 x1_1 x5_1 = some r) ∧ Aside0 (kq ≤ k) ∧ Drawn0 w w')
 case atStart => exact ⟨(a1), (0), RS, RS, H', ⟨Nat.le_refl _⟩, DR⟩
 case round =>
  clear H'
  try clear c2
  try clear p2
  obtain ⟨x1_1, x5_1, rfl, rfl, HA, HK1, ⟨m1, rfl⟩⟩ := hrel
  cases gk with
  | zero => exact absurd HA.out (by simp [laws_heldBoolS.l0])
  | succ k1 =>
   have H := HA.out
   clear HA
   simp only [laws_heldBoolS.l0] at H
   by_cases c3 : x5_1 < (l0.length : Int)
   ·rw [if_pos c3] at H
    have c3b0 : decide (x5_1 < (l0.length : Int)) = true := decide_eq_true c3
    clear c3
    by_cases c4 : 0 ≤ x5_1
    ·rw [if_pos c4] at H
     have c4b0 : decide (0 ≤ x5_1) = true := decide_eq_true c4
     clear c4
     by_cases c5 : ((rdOf false l0 x5_1) != ((Int.tmod x1_1 3) == 0)) = true
     ·rw [if_pos c5] at H
      exact absurd H (by simp)
     ·rw [if_neg c5] at H
      have c5b0 : ((rdOf false l0 x5_1) != ((Int.tmod x1_1 3) == 0)) = false := by simpa using c5
      (try (have c5b1 : decide ((rdOf false l0 x5_1) = ((Int.tmod x1_1 3) == 0)) = true := by simpa using c5))
      (try (have c5b2 : ((rdOf false l0 x5_1) == ((Int.tmod x1_1 3) == 0)) = true := by simpa using c5))
      clear c5
      have H' := Aside0.mk H
      clear H
      have p1227 : 0 ≤ (x5_1 : Int) := of_decide_eq_true AS
      have q1227 : x5_1 < (l0.length : Int) := of_decide_eq_true AS
      obtain ⟨ad1227, e1227, hx1227_0⟩ := Kd.at_bool HR0.out x5_1 p1227 q1227
      cases e1227
      replace p1227 := eq_true p1227
      replace q1227 := eq_true q1227
      go_wp2
      go_roundg k1
      case measure => have := HK1.out; omega
      case rel => exact ⟨(wrap64 (x1_1 + 1)), (wrap64 (x5_1 + 1)), RS, RS, H', ⟨by have := HK1.out; omega⟩, DR⟩
    ·rw [if_neg c4] at H
     exact absurd H (by simp)
   ·rw [if_neg c3] at H
    have c3b0 : decide (x5_1 < (l0.length : Int)) = false := decide_eq_false c3
    clear c3
    obtain rfl := Option.some.inj H
    go_wp2
    go_ret
    exact ⟨by first | rfl | (simp; done) | (simp [*]; done), DR⟩
end Go.Proofs.Ytanakbmhclpamaa.G

namespace Go.Proofs.Ytanakbmhclpamaa.G
open Go.RowKit Go.Proofs.YtanakbmhclpamaaW.PrintWords Go.Proofs.YtanakbmhclpamaaW.PrintLast Go.Proofs.YtanakbmhclpamaaW.PrintMore Go.Proofs.Ytanakbmhclpamaa.Sh
attribute [local go_sem] max2_int min2_int max_two min_two max_three min_three max_four min_four
set_option linter.unusedVariables false
set_option linter.unusedSimpArgs false
open Go.Proofs.Ytanakbmhclpamaa.Mm
def laws_FnExactHitsOf.j0 : Nat → List ByteArray → List Bool → List Bool → Bool → Int → Int → Int → Option (Bool)
 | 0, _, _, _, _, _, _, _ => none
 | k + 1, x1, x6, x8, x48, x1229000, x1229001, x1229002 => if x48 = true then (none) else ((laws_markBoolS.f k x8 1).bind fun bt1256 => ((laws_heldBoolS.f k bt1256.2 1).bind fun t1258 => (if t1258 < 0 then (none) else (if t1258 = bt1256.1 then ((laws_toSetup.f x1229000 x1229001 x1229002).bind fun bt1259 => ((laws_toStringS.f k x1).bind fun t1262 => ((impl_HitsOf.f k bt1259.1 bt1259.2.1 bt1259.2.2 t1262).bind fun t1265 => ((laws_eqBoolS.f k t1265 x6).bind fun t1268 => (if t1268 = true then ((laws_heldBoolS.f k bt1256.2 1).bind fun t1269 => (if t1269 < 0 then (none) else (if t1269 = bt1256.1 then (some true) else (none)))) else (none)))))) else (none)))))
def laws_FnExactHitsOf.f (k : Nat) (a0_0 : Int) (a0_1 : Int) (a0_2 : Int) (l1 : List ByteArray) : Option (Bool) := (laws_szStringS.f k l1 1048576).bind fun t1229 => (if t1229 < 0 then (some true) else ((laws_toSetup.f a0_0 a0_1 a0_2).bind fun bt1230 => ((laws_toStringS.f k l1).bind fun t1233 => ((spec_HitsOf.f k bt1230.1 bt1230.2.1 bt1230.2.2 t1233).bind fun t1236 => ((laws_toStringS.f k l1).bind fun t1239 => ((laws_toSetup.f a0_0 a0_1 a0_2).bind fun bt1242 => ((impl_HitsOf.f k bt1242.1 bt1242.2.1 bt1242.2.2 t1239).bind fun t1245 => ((laws_eqBoolS.f k t1245 t1236).bind fun t1248 => (if t1248 = true then ((laws_toStringS.f k l1).bind fun t1249 => ((laws_eqStringS.f k t1239 t1249).bind fun t1252 => (if t1252 = true then ((laws_markStringS.f k t1239 1).bind fun bt1253 => (if bt1253.1 < 0 then (laws_FnExactHitsOf.j0 k l1 t1236 t1245 true a0_0 a0_1 a0_2) else ((laws_eqBoolS.f k t1245 t1236).bind fun t1255 => (laws_FnExactHitsOf.j0 k l1 t1236 t1245 (!t1255) a0_0 a0_1 a0_2)))) else (none)))) else (none))))))))))
theorem laws_FnExactHitsOf.mono_l : ∀ k, (∀ y0 y1 y2 y3 y4 y5 y6, LeO (laws_FnExactHitsOf.j0 k y0 y1 y2 y3 y4 y5 y6) (laws_FnExactHitsOf.j0 (k + 1) y0 y1 y2 y3 y4 y5 y6))
 | 0 => fun _ _ _ _ _ _ _ r h => by simp [laws_FnExactHitsOf.j0] at h
 | k + 1 => by
  have ih0 := laws_FnExactHitsOf.mono_l k
  ·intro y0 y1 y2 y3 y4 y5 y6
   unfold laws_FnExactHitsOf.j0
   repeat' first | (with_reducible first | exact ih0 _ _ _ _ _ _ _ | exact impl_HitsOf.mono _ _ _ _ _ | exact laws_eqBoolS.mono _ _ _ | exact laws_eqStringS.mono _ _ _ | exact laws_heldBoolS.mono _ _ _ | exact laws_markBoolS.mono _ _ _ | exact laws_markStringS.mono _ _ _ | exact laws_szStringS.mono _ _ _ | exact laws_toStringS.mono _ _ | exact spec_HitsOf.mono _ _ _ _ _ | exact LeO.refl _ | exact LeO.none _ | refine LeO.ite ?_ ?_ | refine LeO.bind ?_ (fun _ => ?_)) | exact LeO.none _ | refine LeO.ite ?_ ?_ | refine LeO.bind ?_ (fun _ => ?_)
theorem laws_FnExactHitsOf.mono : ∀ a0 a1 a2 a3 k, LeO (laws_FnExactHitsOf.f k a0 a1 a2 a3) (laws_FnExactHitsOf.f (k + 1) a0 a1 a2 a3) := by
 intro a0 a1 a2 a3 k
 have ih0 := laws_FnExactHitsOf.mono_l k
 unfold laws_FnExactHitsOf.f
 repeat' first | (with_reducible first | exact ih0 _ _ _ _ _ _ _ | exact impl_HitsOf.mono _ _ _ _ _ | exact laws_eqBoolS.mono _ _ _ | exact laws_eqStringS.mono _ _ _ | exact laws_heldBoolS.mono _ _ _ | exact laws_markBoolS.mono _ _ _ | exact laws_markStringS.mono _ _ _ | exact laws_szStringS.mono _ _ _ | exact laws_toStringS.mono _ _ | exact spec_HitsOf.mono _ _ _ _ _ | exact LeO.refl _ | exact LeO.none _ | refine LeO.ite ?_ ?_ | refine LeO.bind ?_ (fun _ => ?_)) | exact LeO.none _ | refine LeO.ite ?_ ?_ | refine LeO.bind ?_ (fun _ => ?_)
set_option maxHeartbeats 8000000 in
set_option maxRecDepth 100000 in
theorem laws_FnExactHitsOf.calls (k : Nat) (a0_0 : Int) (a0_1 : Int) (a0_2 : Int) (A1 : Option Addr) (c1 : Nat) (l1 : List ByteArray) (r : Bool) (w : World) (hr1 : Kd.C Kd.string w A1 l1.length l1) (hc1 : l1.length ≤ c1) (h : laws_FnExactHitsOf.f k a0_0 a0_1 a0_2 l1 = some r) :
  Calls Try.prog 3 #[.agg #[.int .i64 a0_0, .int .i64 a0_1, .int .i64 a0_2], .slice A1 l1.length c1] w fun e w' => e = .returned (.bool r) ∧ Below w.heap.size w w' := by
 have hu23 := Try.underlying23
 have HR1 := Aside0.mk hr1
 have HC1 := Aside0.mk hc1
 clear hr1 hc1
 have HM := Mem.nil w
 have H := h
 clear h
 unfold laws_FnExactHitsOf.f at H
 go_enter Try.func3, Try.ntmps3
 replace H := BN H; obtain ⟨t1229, A4, H⟩ := H
 go_upto_if 17 with (first | ((with_reducible refine gN 2 rfl ?_); refine pB 2 23 [.int .i64 a0_0, .int .i64 a0_1, .int .i64 a0_2] HM rfl ?_; clear HM; intro gb1228 w3 HM) | ((with_reducible refine gC 11 rfl ?_); refine pC (some 15) rfl #[.slice A1 l1.length c1, .int .i64 1048576] rfl Try.func11 (laws_szStringS.calls k _ _ l1 1048576 t1229 _ (HM.came HR1.out) HC1.out A4.out) ?_; rintro e w5 ⟨rfl, hd⟩; refine ⟨_, rfl, ?_⟩; replace HM := HM.drawn hd; clear hd))
 replace H := IT H; rcases H with ⟨c6, H⟩ | ⟨c6, H⟩
 ·have c6b0 : decide (t1229 < 0) = true := decide_eq_true c6
  clear c6
  (first | rw [c6b0] | (simp only [i64_w, i32_w]; rw [c6b0]) | skip)
  obtain rfl := Option.some.inj H
  go_wp2
  go_ret
  exact ⟨ER, HM.bel⟩
 ·have c6b0 : decide (t1229 < 0) = false := decide_eq_false c6
  clear c6
  (first | rw [c6b0] | (simp only [i64_w, i32_w]; rw [c6b0]) | skip)
  replace H := BN H; obtain ⟨⟨t1230, t1231, t1232⟩, A8, H⟩ := H
  replace H := BN H; obtain ⟨t1233, A10, H⟩ := H
  replace H := BN H; obtain ⟨t1236, A12, H⟩ := H
  replace H := BN H; obtain ⟨t1239, A15, H⟩ := H
  replace H := BN H; obtain ⟨⟨t1242, t1243, t1244⟩, A18, H⟩ := H
  replace H := BN H; obtain ⟨t1245, A20, H⟩ := H
  replace H := BN H; obtain ⟨t1248, A23, H⟩ := H
  replace H := GD H
  obtain ⟨c27, H⟩ := H
  subst c27
  replace H := BN H; obtain ⟨t1249, A28, H⟩ := H
  replace H := BN H; obtain ⟨t1252, A30, H⟩ := H
  replace H := GD H
  obtain ⟨c33, H⟩ := H
  subst c33
  replace H := BN H; obtain ⟨⟨t1253, t1254⟩, A34, H⟩ := H
  have HC36 := Aside0.mk H
  clear H
  obtain ⟨z7_0, z7_1, z7_2, Z7_0, Z7_1, Z7_2⟩ := bk3 (HM.bx 0 rfl)
  go_upto_region 14 with (first | ((with_reducible refine gC 13 rfl ?_); refine pC (some 19) rfl #[.agg #[.int .i64 a0_0, .int .i64 a0_1, .int .i64 a0_2]] rfl Try.func13 (laws_toSetup.calls a0_0 a0_1 a0_2 t1230 t1231 t1232 _ A8.out) ?_; rintro e w9 ⟨rfl, hR⟩; refine ⟨_, rfl, ?_⟩; replace HM := HM.call hR; clear hR) | ((with_reducible refine gC 14 rfl ?_); refine pC (some 21) rfl #[.slice A1 l1.length c1] rfl Try.func14 (laws_toStringS.calls k _ _ l1 t1233 _ (HM.came HR1.out) HC1.out A10.out) ?_; rintro e w11 ⟨v1234, rfl, hR⟩; refine ⟨_, rfl, ?_⟩; replace HM := HM.call hR; clear hR; obtain ⟨Xo14, ko14, eo14⟩ := HM.rdR 1 rfl; subst eo14) | ((with_reducible refine gC 12 rfl ?_); refine pC (some 22) rfl #[.agg #[.int .i64 t1230, .int .i64 t1231, .int .i64 t1232], .slice Xo14 t1233.length ko14] rfl Try.func12 (spec_HitsOf.calls k t1230 t1231 t1232 _ _ t1233 t1236 _ (HM.CR 1 rfl).2.2 (HM.CR 1 rfl).2.1 A12.out) ?_; rintro e w13 ⟨v1237, rfl, hR⟩; refine ⟨_, rfl, ?_⟩; replace HM := HM.call hR; clear hR) | ((with_reducible refine gC 14 rfl ?_); refine pC (some 24) rfl #[.slice A1 l1.length c1] rfl Try.func14 (laws_toStringS.calls k _ _ l1 t1239 _ (HM.came HR1.out) HC1.out A15.out) ?_; rintro e w16 ⟨v1240, rfl, hR⟩; refine ⟨_, rfl, ?_⟩; replace HM := HM.call hR; clear hR; obtain ⟨z17_0, z17_1, z17_2, Z17_0, Z17_1, Z17_2⟩ := bk3 (HM.bx 0 rfl)) | ((with_reducible refine gC 13 rfl ?_); refine pC (some 26) rfl #[.agg #[.int .i64 a0_0, .int .i64 a0_1, .int .i64 a0_2]] rfl Try.func13 (laws_toSetup.calls a0_0 a0_1 a0_2 t1242 t1243 t1244 _ A18.out) ?_; rintro e w19 ⟨rfl, hR⟩; refine ⟨_, rfl, ?_⟩; replace HM := HM.call hR; clear hR; obtain ⟨Xo22, ko22, eo22⟩ := HM.rdR 3 rfl; subst eo22) | ((with_reducible refine gC 15 rfl ?_); refine pC (some 28) rfl #[.agg #[.int .i64 t1242, .int .i64 t1243, .int .i64 t1244], .slice Xo22 t1239.length ko22] rfl Try.func15 (impl_HitsOf.calls k t1242 t1243 t1244 _ _ t1239 t1245 _ (HM.CR 3 rfl).2.2 (HM.CR 3 rfl).2.1 A20.out) ?_; rintro e w21 ⟨v1246, rfl, hR⟩; refine ⟨_, rfl, ?_⟩; replace HM := HM.call hR; clear hR; obtain ⟨Xo25, ko25, eo25⟩ := HM.rdR 4 rfl; subst eo25; obtain ⟨Xo26, ko26, eo26⟩ := HM.rdR 2 rfl; subst eo26) | ((with_reducible refine gC 16 rfl ?_); refine pC (some 31) rfl #[.slice Xo25 t1245.length ko25, .slice Xo26 t1236.length ko26] rfl Try.func16 (laws_eqBoolS.calls k _ _ t1245 _ _ t1236 true _ (HM.CR 4 rfl).2.2 (HM.CR 4 rfl).2.1 (HM.CR 2 rfl).2.2 (HM.CR 2 rfl).2.1 A23.out) ?_; rintro e w24 ⟨rfl, hd⟩; refine ⟨_, rfl, ?_⟩; replace HM := HM.drawn hd; clear hd) | ((with_reducible refine gC 14 rfl ?_); refine pC (some 35) rfl #[.slice A1 l1.length c1] rfl Try.func14 (laws_toStringS.calls k _ _ l1 t1249 _ (HM.came HR1.out) HC1.out A28.out) ?_; rintro e w29 ⟨v1250, rfl, hR⟩; refine ⟨_, rfl, ?_⟩; replace HM := HM.call hR; clear hR; obtain ⟨Xo32, ko32, eo32⟩ := HM.rdR 5 rfl; subst eo32) | ((with_reducible refine gC 17 rfl ?_); refine pC (some 36) rfl #[.slice Xo22 t1239.length ko22, .slice Xo32 t1249.length ko32] rfl Try.func17 (laws_eqStringS.calls k _ _ t1239 _ _ t1249 true _ (HM.CR 3 rfl).2.2 (HM.CR 3 rfl).2.1 (HM.CR 5 rfl).2.2 (HM.CR 5 rfl).2.1 A30.out) ?_; rintro e w31 ⟨rfl, hd⟩; refine ⟨_, rfl, ?_⟩; replace HM := HM.drawn hd; clear hd) | ((with_reducible refine gC 18 rfl ?_); refine pC (some 40) rfl #[.slice Xo22 t1239.length ko22, .int .i64 1] rfl Try.func18 (laws_markStringS.calls k (.slice Xo22 t1239.length ko22) t1239 1 t1253 t1254 _ _ _ (HM.focus [0, 1, 2, 4, 5] [3]) A34.out) ?_; rintro e w35 ⟨rfl, hR⟩; refine ⟨_, rfl, ?_⟩; replace HM := nzM hR.unfocus; clear hR))
  replace HM := nzM HM
  go_cut [48] (fun v48 wc => ∃ (kq : Nat) (x48_35 : Bool), v48 = .bool x48_35 ∧ Aside0 (laws_FnExactHitsOf.j0 kq l1 t1236 t1245 x48_35 a0_0 a0_1 a0_2 = some r) ∧ Aside0 (kq ≤ k) ∧ Mem w [] wc [rowR Kd.bool 4 (.slice Xo26 t1236.length ko26) t1236, rowR Kd.bool 4 (.slice Xo25 t1245.length ko25) t1245, box 23 gb1228 [.int .i64 a0_0, .int .i64 a0_1, .int .i64 a0_2]])
  case first =>
   have H := HC36.out
   clear HC36
   replace H := IT H; rcases H with ⟨c37, H⟩ | ⟨c37, H⟩
   ·have c37b0 : decide (t1253 < 0) = true := decide_eq_true c37
    clear c37
    have H' := Aside0.mk H
    clear H
    go_wp2
    go_meet
    case rel => exact ⟨_, (true), RS, H', ⟨by first | omega | exact Nat.le_refl _⟩, (MD HM).pick [2, 3, 0]⟩
   ·have c37b0 : decide (t1253 < 0) = false := decide_eq_false c37
    clear c37
    replace H := BN H; obtain ⟨t1255, A38, H⟩ := H
    have H' := Aside0.mk H
    clear H
    go_wp2_with (first | ((with_reducible refine gC 16 rfl ?_); refine pC (some 46) rfl #[.slice Xo25 t1245.length ko25, .slice Xo26 t1236.length ko26] rfl Try.func16 (laws_eqBoolS.calls k _ _ t1245 _ _ t1236 t1255 _ (HM.CR 3 rfl).2.2 (HM.CR 3 rfl).2.1 (HM.CR 2 rfl).2.2 (HM.CR 2 rfl).2.1 A38.out) ?_; rintro e w39 ⟨rfl, hd⟩; refine ⟨_, rfl, ?_⟩; replace HM := HM.drawn hd; clear hd))
    go_meet
    case rel => exact ⟨_, (!t1255), RS, H', ⟨by first | omega | exact Nat.le_refl _⟩, (MD HM).pick [2, 3, 0]⟩
  case rest =>
   clear HC36 HM
   obtain ⟨kq, x48_35, rfl, HA, HJ35, HM⟩ := hcut
   cases kq with
   | zero => exact absurd HA.out (by simp [laws_FnExactHitsOf.j0])
   | succ kj35 =>
    have H := HA.out
    clear HA
    simp only [laws_FnExactHitsOf.j0] at H
    replace H := GN H
    obtain ⟨c40, H⟩ := H
    replace c40 := Bool.eq_false_iff.mpr c40
    subst c40
    replace H := BN H; obtain ⟨⟨t1256, t1257⟩, A41, H⟩ := H
    replace H := BN H; obtain ⟨t1258, A43, H⟩ := H
    replace H := GN H; obtain ⟨c45, H⟩ := H
    have c45b0 : decide (t1258 < 0) = false := decide_eq_false c45
    clear c45
    replace H := GD H; obtain ⟨c46, H⟩ := H
    have c46b0 : (t1258 == t1256) = true := beq_iff_eq.mpr c46
    have c46b1 : (t1258 != t1256) = false := bne_eq_false_iff_eq.mpr c46
    clear c46
    replace H := BN H; obtain ⟨⟨t1259, t1260, t1261⟩, A48, H⟩ := H
    replace H := BN H; obtain ⟨t1262, A50, H⟩ := H
    replace H := BN H; obtain ⟨t1265, A52, H⟩ := H
    replace H := BN H; obtain ⟨t1268, A55, H⟩ := H
    replace H := GD H
    obtain ⟨c58, H⟩ := H
    subst c58
    replace H := BN H; obtain ⟨t1269, A59, H⟩ := H
    replace H := GN H; obtain ⟨c61, H⟩ := H
    have c61b0 : decide (t1269 < 0) = false := decide_eq_false c61
    clear c61
    replace H := GD H; obtain ⟨c62, H⟩ := H
    have c62b0 : (t1269 == t1256) = true := beq_iff_eq.mpr c62
    have c62b1 : (t1269 != t1256) = false := bne_eq_false_iff_eq.mpr c62
    clear c62
    obtain rfl := Option.some.inj H
    go_wp2_with (first | ((with_reducible refine gC 19 rfl ?_); refine pC (some 51) rfl #[.slice Xo25 t1245.length ko25, .int .i64 1] rfl Try.func19 (laws_markBoolS.calls kj35 (.slice Xo25 t1245.length ko25) t1245 1 t1256 t1257 _ _ _ (HM.focus [0, 2] [1]) A41.out) ?_; rintro e w42 ⟨rfl, hR⟩; refine ⟨_, rfl, ?_⟩; replace HM := nzM hR.unfocus; clear hR) | ((with_reducible refine gC 20 rfl ?_); refine pC (some 54) rfl #[.slice Xo25 t1257.length ko25, .int .i64 1] rfl Try.func20 (laws_heldBoolS.calls kj35 _ _ t1257 1 t1258 _ (HM.CR 2 rfl).2.2 (by rw [← (HM.CR 2 rfl).1]; exact (HM.CR 2 rfl).2.1) A43.out) ?_ (hargs := by (try simp only [List.map_toArray, List.map_cons, List.map_nil]); show (#[.slice Xo25 t1245.length ko25, .int .i64 1] : Array Value) = _; rw [(HM.CR 2 rfl).1]); rintro e w44 ⟨rfl, hd⟩; refine ⟨_, rfl, ?_⟩; replace HM := HM.drawn hd; clear hd; obtain ⟨z47_0, z47_1, z47_2, Z47_0, Z47_1, Z47_2⟩ := bk3 (HM.bx 1 rfl)) | ((with_reducible refine gC 13 rfl ?_); refine pC (some 61) rfl #[.agg #[.int .i64 a0_0, .int .i64 a0_1, .int .i64 a0_2]] rfl Try.func13 (laws_toSetup.calls a0_0 a0_1 a0_2 t1259 t1260 t1261 _ A48.out) ?_; rintro e w49 ⟨rfl, hR⟩; refine ⟨_, rfl, ?_⟩; replace HM := HM.call hR; clear hR) | ((with_reducible refine gC 14 rfl ?_); refine pC (some 63) rfl #[.slice A1 l1.length c1] rfl Try.func14 (laws_toStringS.calls kj35 _ _ l1 t1262 _ (HM.came HR1.out) HC1.out A50.out) ?_; rintro e w51 ⟨v1263, rfl, hR⟩; refine ⟨_, rfl, ?_⟩; replace HM := HM.call hR; clear hR; obtain ⟨Xo54, ko54, eo54⟩ := HM.rdR 3 rfl; subst eo54) | ((with_reducible refine gC 15 rfl ?_); refine pC (some 64) rfl #[.agg #[.int .i64 t1259, .int .i64 t1260, .int .i64 t1261], .slice Xo54 t1262.length ko54] rfl Try.func15 (impl_HitsOf.calls kj35 t1259 t1260 t1261 _ _ t1262 t1265 _ (HM.CR 3 rfl).2.2 (HM.CR 3 rfl).2.1 A52.out) ?_; rintro e w53 ⟨v1266, rfl, hR⟩; refine ⟨_, rfl, ?_⟩; replace HM := HM.call hR; clear hR; obtain ⟨Xo57, ko57, eo57⟩ := HM.rdR 4 rfl; subst eo57) | ((with_reducible refine gC 16 rfl ?_); refine pC (some 67) rfl #[.slice Xo57 t1265.length ko57, .slice Xo26 t1236.length ko26] rfl Try.func16 (laws_eqBoolS.calls kj35 _ _ t1265 _ _ t1236 true _ (HM.CR 4 rfl).2.2 (HM.CR 4 rfl).2.1 (HM.CR 0 rfl).2.2 (HM.CR 0 rfl).2.1 A55.out) ?_; rintro e w56 ⟨rfl, hd⟩; refine ⟨_, rfl, ?_⟩; replace HM := HM.drawn hd; clear hd) | ((with_reducible refine gC 20 rfl ?_); refine pC (some 71) rfl #[.slice Xo25 t1257.length ko25, .int .i64 1] rfl Try.func20 (laws_heldBoolS.calls kj35 _ _ t1257 1 t1269 _ (HM.CR 2 rfl).2.2 (by rw [← (HM.CR 2 rfl).1]; exact (HM.CR 2 rfl).2.1) A59.out) ?_ (hargs := by (try simp only [List.map_toArray, List.map_cons, List.map_nil]); show (#[.slice Xo25 t1245.length ko25, .int .i64 1] : Array Value) = _; rw [(HM.CR 2 rfl).1]); rintro e w60 ⟨rfl, hd⟩; refine ⟨_, rfl, ?_⟩; replace HM := HM.drawn hd; clear hd))
    go_ret
    exact ⟨ER, HM.bel⟩
mutual
def spec_CountOf.j0 : Nat → List ByteArray → Bool → Int → Int → Int → Option (Int × Int × Int × Int)
 | 0, _, _, _, _, _ => none
 | k + 1, x1, x18, x1271000, x1271001, x1271002 => if x18 = true then (some (0, 0, 0, 0)) else ((spec_l12Go.f k x1271000 x1271001 x1271002 x1).bind fun bt1274 => (spec_CountOf.l0 k bt1274.2.2.2.2.2.2.2.2.1 (bt1274.2.2.2.2.2.2.2.2.1.length : Int) 0 (x1.length : Int) 0 0 bt1274.2.2.2.2.2.2.2.2.2))
def spec_CountOf.l0 : Nat → List Bool → Int → Int → Int → Int → Int → Int → Option (Int × Int × Int × Int)
 | 0, _, _, _, _, _, _, _ => none
 | k + 1, x31, x32, x33, x1296000, x1296001, x1296002, x1296003 => if x33 < x32 then (if 0 ≤ x33 then (if x33 < (x31.length : Int) then (if rdOf false x31 x33 = true then (spec_CountOf.l0 k x31 x32 (wrap64 (x33 + 1)) x1296000 (wrap64 (x1296001 + 1)) x1296002 x1296003) else (spec_CountOf.l0 k x31 x32 (wrap64 (x33 + 1)) x1296000 x1296001 (wrap64 (x1296002 + 1)) x1296003)) else (none)) else (none)) else (some (x1296000, x1296001, x1296002, x1296003))
end
def spec_CountOf.f (k : Nat) (a0_0 : Int) (a0_1 : Int) (a0_2 : Int) (l1 : List ByteArray) : Option (Int × Int × Int × Int) := (spec_SetupOk.f k a0_0 a0_1 a0_2).bind fun t1272 => (if t1272 = true then ((spec_AsksOk.f k l1).bind fun t1273 => (spec_CountOf.j0 k l1 (!t1273) a0_0 a0_1 a0_2)) else (spec_CountOf.j0 k l1 true a0_0 a0_1 a0_2))
theorem spec_CountOf.mono_l : ∀ k, (∀ y0 y1 y2 y3 y4, LeO (spec_CountOf.j0 k y0 y1 y2 y3 y4) (spec_CountOf.j0 (k + 1) y0 y1 y2 y3 y4)) ∧ (∀ y0 y1 y2 y3 y4 y5 y6, LeO (spec_CountOf.l0 k y0 y1 y2 y3 y4 y5 y6) (spec_CountOf.l0 (k + 1) y0 y1 y2 y3 y4 y5 y6))
 | 0 => ⟨fun _ _ _ _ _ r h => by simp [spec_CountOf.j0] at h, fun _ _ _ _ _ _ _ r h => by simp [spec_CountOf.l0] at h⟩
 | k + 1 => by
  obtain ⟨ih0, ih1⟩ := spec_CountOf.mono_l k
  refine ⟨?_, ?_⟩
  ·intro y0 y1 y2 y3 y4
   unfold spec_CountOf.j0
   repeat' first | (with_reducible first | exact ih0 _ _ _ _ _ | exact ih1 _ _ _ _ _ _ _ | exact spec_AsksOk.mono _ _ | exact spec_SetupOk.mono _ _ _ _ | exact spec_l12Go.mono _ _ _ _ _ | exact LeO.refl _ | exact LeO.none _ | refine LeO.ite ?_ ?_ | refine LeO.bind ?_ (fun _ => ?_)) | exact LeO.none _ | refine LeO.ite ?_ ?_ | refine LeO.bind ?_ (fun _ => ?_)
  ·intro y0 y1 y2 y3 y4 y5 y6
   unfold spec_CountOf.l0
   repeat' first | (with_reducible first | exact ih0 _ _ _ _ _ | exact ih1 _ _ _ _ _ _ _ | exact spec_AsksOk.mono _ _ | exact spec_SetupOk.mono _ _ _ _ | exact spec_l12Go.mono _ _ _ _ _ | exact LeO.refl _ | exact LeO.none _ | refine LeO.ite ?_ ?_ | refine LeO.bind ?_ (fun _ => ?_)) | exact LeO.none _ | refine LeO.ite ?_ ?_ | refine LeO.bind ?_ (fun _ => ?_)
theorem spec_CountOf.mono : ∀ a0 a1 a2 a3 k, LeO (spec_CountOf.f k a0 a1 a2 a3) (spec_CountOf.f (k + 1) a0 a1 a2 a3) := by
 intro a0 a1 a2 a3 k
 obtain ⟨ih0, ih1⟩ := spec_CountOf.mono_l k
 unfold spec_CountOf.f
 repeat' first | (with_reducible first | exact ih0 _ _ _ _ _ | exact ih1 _ _ _ _ _ _ _ | exact spec_AsksOk.mono _ _ | exact spec_SetupOk.mono _ _ _ _ | exact spec_l12Go.mono _ _ _ _ _ | exact LeO.refl _ | exact LeO.none _ | refine LeO.ite ?_ ?_ | refine LeO.bind ?_ (fun _ => ?_)) | exact LeO.none _ | refine LeO.ite ?_ ?_ | refine LeO.bind ?_ (fun _ => ?_)
set_option maxHeartbeats 8000000 in
set_option maxRecDepth 100000 in
theorem spec_CountOf.calls (k : Nat) (a0_0 : Int) (a0_1 : Int) (a0_2 : Int) (A1 : Option Addr) (c1 : Nat) (l1 : List ByteArray) (r1 : Int) (r2 : Int) (r3 : Int) (r4 : Int) (w : World) (hr1 : Kd.C Kd.string w A1 l1.length l1) (hc1 : l1.length ≤ c1) (h : spec_CountOf.f k a0_0 a0_1 a0_2 l1 = some (r1, r2, r3, r4)) :
  Calls Try.prog 21 #[.agg #[.int .i64 a0_0, .int .i64 a0_1, .int .i64 a0_2], .slice A1 l1.length c1] w fun e w' => e = .returned (.agg #[.int .i64 r1, .int .i64 r2, .int .i64 r3, .int .i64 r4]) ∧ Mem w [] w' [] := by
 have hu28 := Try.underlying28
 have hu36 := Try.underlying36
 have hu67 := Try.underlying67
 have HR1 := Aside0.mk hr1
 have HC1 := Aside0.mk hc1
 clear hr1 hc1
 have HM := Mem.nil w
 have H := h
 clear h
 unfold spec_CountOf.f at H
 go_enter Try.func21, Try.ntmps21
 have HC5 := Aside0.mk H
 clear H
 go_upto_region 1 with (first | ((with_reducible refine gN 2 rfl ?_); refine pB 2 28 [.int .i64 a0_0, .int .i64 a0_1, .int .i64 a0_2] HM rfl ?_; clear HM; intro gb1270 w3 HM) | ((with_reducible refine gN 4 rfl ?_); refine pB 4 36 [.int .i64 0, .int .i64 0, .int .i64 0, .int .i64 0] HM rfl ?_; clear HM; intro gb1271 w4 HM))
 replace HM := nzM HM
 try simp only [Act.put, List.setIfInBounds_toArray, List.set_cons_zero, List.set_cons_succ]
 go_cut [18] (fun v18 wc => ∃ (kq : Nat) (x18_4 : Bool), v18 = .bool x18_4 ∧ Aside0 (spec_CountOf.j0 kq l1 x18_4 a0_0 a0_1 a0_2 = some (r1, r2, r3, r4)) ∧ Aside0 (kq ≤ k) ∧ Mem w [] wc [box 28 gb1270 [.int .i64 a0_0, .int .i64 a0_1, .int .i64 a0_2], box 36 gb1271 [.int .i64 0, .int .i64 0, .int .i64 0, .int .i64 0]])
 case first =>
  have H := HC5.out
  clear HC5
  replace H := BN H; obtain ⟨t1272, A7, H⟩ := H
  replace H := IB H
  rcases H with ⟨c9, H⟩ | ⟨c9, H⟩
  ·subst c9
   replace H := BN H; obtain ⟨t1273, A10, H⟩ := H
   have H' := Aside0.mk H
   clear H
   obtain ⟨z6_0, z6_1, z6_2, Z6_0, Z6_1, Z6_2⟩ := bk3 (HM.bx 0 rfl)
   go_wp2_with (first | ((with_reducible refine gC 47 rfl ?_); refine pC (some 12) rfl #[.agg #[.int .i64 a0_0, .int .i64 a0_1, .int .i64 a0_2]] rfl Try.func47 (spec_SetupOk.calls k a0_0 a0_1 a0_2 true _ A7.out) ?_; rintro e w8 ⟨rfl, hR⟩; refine ⟨_, rfl, ?_⟩; replace HM := HM.call hR; clear hR) | ((with_reducible refine gC 48 rfl ?_); refine pC (some 16) rfl #[.slice A1 l1.length c1] rfl Try.func48 (spec_AsksOk.calls k _ _ l1 t1273 _ (HM.came HR1.out) HC1.out A10.out) ?_; rintro e w11 ⟨rfl, hR⟩; refine ⟨_, rfl, ?_⟩; replace HM := HM.call hR; clear hR))
   go_meet
   case rel => exact ⟨_, (!t1273), RS, H', ⟨by first | omega | exact Nat.le_refl _⟩, (MD HM).pick [0, 1]⟩
  ·subst c9
   have H' := Aside0.mk H
   clear H
   obtain ⟨z6_0, z6_1, z6_2, Z6_0, Z6_1, Z6_2⟩ := bk3 (HM.bx 0 rfl)
   go_wp2_with (first | ((with_reducible refine gC 47 rfl ?_); refine pC (some 12) rfl #[.agg #[.int .i64 a0_0, .int .i64 a0_1, .int .i64 a0_2]] rfl Try.func47 (spec_SetupOk.calls k a0_0 a0_1 a0_2 false _ A7.out) ?_; rintro e w8 ⟨rfl, hR⟩; refine ⟨_, rfl, ?_⟩; replace HM := HM.call hR; clear hR))
   go_meet
   case rel => exact ⟨_, (true), RS, H', ⟨by first | omega | exact Nat.le_refl _⟩, (MD HM).pick [0, 1]⟩
 case rest =>
  clear HC5 HM
  obtain ⟨kq, x18_4, rfl, HA, HJ4, HM⟩ := hcut
  cases kq with
  | zero => exact absurd HA.out (by simp [spec_CountOf.j0])
  | succ kj4 =>
   have H := HA.out
   clear HA
   simp only [spec_CountOf.j0] at H
   go_upto_if 18 with (fail)
   replace H := IB H
   rcases H with ⟨c12, H⟩ | ⟨c12, H⟩
   ·subst c12
    simp only [Option.some.injEq, Prod.mk.injEq] at H
    obtain ⟨rfl, rfl, rfl, rfl⟩ := H
    go_wp2_with (first | ((with_reducible refine gS 4 rfl ?_); refine pS 1 4 0 [.int .i64 0, .int .i64 0, .int .i64 0, .int .i64 0] HM rfl rfl ?_; clear HM; intro w13 HM))
    refine bodyPost_ret (results_cell_row rfl _ _ gb1271 36 #[.int .i64 0, .int .i64 0, .int .i64 0, .int .i64 0] (0, 0) _ rfl (HM.bx 1 rfl) Try.underlying36 rfl (by kernel_rfl)) rfl ?_
    exact ⟨ER, (MD HM).pick []⟩
   ·subst c12
    replace H := BN H; obtain ⟨⟨t1274, t1275, t1276, t1279, t1282, t1285, t1286, t1287, t1290, t1293⟩, A15, H⟩ := H
    have H' := Aside0.mk H
    clear H
    obtain ⟨z14_0, z14_1, z14_2, Z14_0, Z14_1, Z14_2⟩ := bk3 (HM.bx 0 rfl)
    go_wp2_with (first | ((with_reducible refine gC 49 rfl ?_); refine pC (some 23) rfl #[.agg #[.int .i64 a0_0, .int .i64 a0_1, .int .i64 a0_2], .slice A1 l1.length c1] rfl Try.func49 (spec_l12Go.calls kj4 a0_0 a0_1 a0_2 _ _ l1 t1274 t1275 t1276 t1279 t1282 t1285 t1286 t1287 t1290 t1293 _ (HM.came HR1.out) HC1.out A15.out) ?_; rintro e w16 ⟨v1277, v1280, v1283, v1288, v1291, rfl, hR⟩; refine ⟨_, rfl, ?_⟩; replace HM := HM.call hR; clear hR) | ((with_reducible refine gN 5 rfl ?_); refine pB 5 67 [.int .i64 0, .int .i64 0, .slice none 0 0, .slice none 0 0, .slice none 0 0, .int .i64 0, .int .i64 0, .slice none 0 0] HM rfl ?_; clear HM; intro gb1294 w17 HM; obtain ⟨Xo18, ko18, eo18⟩ := HM.rdR 2 rfl; subst eo18; obtain ⟨Xo19, ko19, eo19⟩ := HM.rdR 3 rfl; subst eo19; obtain ⟨Xo20, ko20, eo20⟩ := HM.rd 4 rfl; subst eo20; obtain ⟨Xo21, ko21, eo21⟩ := HM.rdR 5 rfl; subst eo21) | ((with_reducible refine gS 5 rfl ?_); refine pS 7 5 0 [.int .i64 t1274, .int .i64 t1275, .slice Xo18 t1276.length ko18, .slice Xo19 t1279.length ko19, .slice Xo20 t1282.length ko20, .int .i64 t1285, .int .i64 t1286, .slice Xo21 t1287.length ko21] HM rfl rfl ?_; clear HM; intro w22 HM) | ((with_reducible refine gN 8 rfl ?_); refine pB 8 36 [.int .i64 0, .int .i64 0, .int .i64 0, .int .i64 0] HM rfl ?_; clear HM; intro gb1295 w23 HM) | ((with_reducible refine gS 8 rfl ?_); refine pS 8 8 0 [.int .i64 (l1.length : Int), .int .i64 0, .int .i64 0, .int .i64 t1293] HM rfl rfl ?_; clear HM; intro w24 HM; obtain ⟨Xo25, ko25, eo25⟩ := HM.rdR 6 rfl; subst eo25))
    go_loopg [33] kj4 (fun kq v33 w' => ∃ (x33_2 : Int) (x1296001_2 : Int) (x1296002_2 : Int), v33 = .int .i64 x33_2 ∧ Aside0 (spec_CountOf.l0 kq t1290 (t1290.length : Int) x33_2 (l1.length : Int) x1296001_2 x1296002_2 t1293 = some (r1, r2, r3, r4)) ∧ Aside0 (kq ≤ kj4) ∧ Mem w [] w' [rowR Kd.bool 4 (.slice Xo25 t1290.length ko25) t1290, rowR k76 76 (.slice Xo18 t1276.length ko18) t1276, rowR k76 76 (.slice Xo19 t1279.length ko19) t1279, row (Kd.int .i64) 3 (.slice Xo20 t1282.length ko20) t1282, rowR k76 76 (.slice Xo21 t1287.length ko21) t1287, box 28 gb1270 [.int .i64 a0_0, .int .i64 a0_1, .int .i64 a0_2], box 36 gb1271 [.int .i64 0, .int .i64 0, .int .i64 0, .int .i64 0], box 67 gb1294 [.int .i64 t1274, .int .i64 t1275, (.slice Xo18 t1276.length ko18), (.slice Xo19 t1279.length ko19), (.slice Xo20 t1282.length ko20), .int .i64 t1285, .int .i64 t1286, (.slice Xo21 t1287.length ko21)], box 36 gb1295 [.int .i64 (l1.length : Int), .int .i64 x1296001_2, .int .i64 x1296002_2, .int .i64 t1293]])
    case atStart => exact ⟨(0), (0), (0), RS, H', ⟨Nat.le_refl _⟩, (MD HM).pick [6, 2, 3, 4, 5, 0, 1, 7, 8]⟩
    case round =>
     clear H' HM
     obtain ⟨x33_2, x1296001_2, x1296002_2, rfl, HA, HK2, HM⟩ := hrel
     cases gk with
     | zero => exact absurd HA.out (by simp [spec_CountOf.l0])
     | succ k2 =>
      have H := HA.out
      clear HA
      simp only [spec_CountOf.l0] at H
      go_upto_if 34 with (fail)
      replace H := IT H; rcases H with ⟨c26, H⟩ | ⟨c26, H⟩
      ·have c26b0 : decide (x33_2 < (t1290.length : Int)) = true := decide_eq_true c26
       clear c26
       (first | rw [c26b0] | (simp only [i64_w, i32_w]; rw [c26b0]) | skip)
       replace H := GD H; obtain ⟨c27, H⟩ := H
       have c27b0 : decide (0 ≤ x33_2) = true := decide_eq_true c27
       clear c27
       replace H := GD H; obtain ⟨c28, H⟩ := H
       have c28b0 : decide (x33_2 < (t1290.length : Int)) = true := decide_eq_true c28
       clear c28
       have p1296 : 0 ≤ (x33_2 : Int) := of_decide_eq_true AS
       have q1296 : (x33_2 : Int) < (t1290.length : Int) := of_decide_eq_true AS
       obtain ⟨ad1296, e1296, hx1296_0⟩ := Kd.at_bool (HM.CR 0 rfl).2.2 x33_2 p1296 q1296
       cases e1296
       replace p1296 := eq_true p1296
       replace q1296 := eq_true q1296
       go_upto_if 37 with (fail)
       replace H := IT H; rcases H with ⟨c29, H⟩ | ⟨c29, H⟩
       ·have c29b0 : rdOf false t1290 x33_2 = true := c29
        clear c29
        (first | rw [c29b0] | (simp only [i64_w, i32_w]; rw [c29b0]) | skip)
        have H' := Aside0.mk H
        clear H
        obtain ⟨z30_0, z30_1, z30_2, z30_3, Z30_0, Z30_1, Z30_2, Z30_3⟩ := bk4 (HM.bx 8 rfl)
        go_wp2_with (first | ((with_reducible refine gS 41 rfl ?_); refine pS 8 41 1 [.int .i64 (wrap64 (x1296001_2 + 1))] HM rfl rfl ?_; clear HM; intro w31 HM))
        go_roundg k2
        case measure => have := HJ4.out; have := HK2.out; omega
        case rel => exact ⟨(wrap64 (x33_2 + 1)), (wrap64 (x1296001_2 + 1)), (x1296002_2), RS, H', ⟨by have := HJ4.out; have := HK2.out; omega⟩, (MD HM).pick [0, 1, 2, 3, 4, 5, 6, 7, 8]⟩
       ·have c29b0 : rdOf false t1290 x33_2 = false := by simpa using c29
        clear c29
        (first | rw [c29b0] | (simp only [i64_w, i32_w]; rw [c29b0]) | skip)
        have H' := Aside0.mk H
        clear H
        obtain ⟨z32_0, z32_1, z32_2, z32_3, Z32_0, Z32_1, Z32_2, Z32_3⟩ := bk4 (HM.bx 8 rfl)
        go_wp2_with (first | ((with_reducible refine gS 45 rfl ?_); refine pS 8 45 2 [.int .i64 (wrap64 (x1296002_2 + 1))] HM rfl rfl ?_; clear HM; intro w33 HM))
        go_roundg k2
        case measure => have := HJ4.out; have := HK2.out; omega
        case rel => exact ⟨(wrap64 (x33_2 + 1)), (x1296001_2), (wrap64 (x1296002_2 + 1)), RS, H', ⟨by have := HJ4.out; have := HK2.out; omega⟩, (MD HM).pick [0, 1, 2, 3, 4, 5, 6, 7, 8]⟩
      ·have c26b0 : decide (x33_2 < (t1290.length : Int)) = false := decide_eq_false c26
       clear c26
       (first | rw [c26b0] | (simp only [i64_w, i32_w]; rw [c26b0]) | skip)
       simp only [Option.some.injEq, Prod.mk.injEq] at H
       obtain ⟨rfl, rfl, rfl, rfl⟩ := H
       obtain ⟨z34_0, z34_1, z34_2, z34_3, Z34_0, Z34_1, Z34_2, Z34_3⟩ := bk4 (HM.bx 8 rfl)
       go_wp2_with (first | ((with_reducible refine gS 4 rfl ?_); refine pS 6 4 0 [.int .i64 (l1.length : Int), .int .i64 x1296001_2, .int .i64 x1296002_2, .int .i64 t1293] HM rfl rfl ?_; clear HM; intro w35 HM))
       refine bodyPost_ret (results_cell_row rfl _ _ gb1271 36 #[.int .i64 (l1.length : Int), .int .i64 x1296001_2, .int .i64 x1296002_2, .int .i64 t1293] (0, 0) _ rfl (HM.bx 6 rfl) Try.underlying36 rfl (by kernel_rfl)) rfl ?_
       exact ⟨ER, (MD HM).pick []⟩
end Go.Proofs.Ytanakbmhclpamaa.G

namespace Go.Proofs.Ytanakbmhclpamaa.G
open Go.RowKit Go.Proofs.YtanakbmhclpamaaW.PrintWords Go.Proofs.YtanakbmhclpamaaW.PrintLast Go.Proofs.YtanakbmhclpamaaW.PrintMore Go.Proofs.Ytanakbmhclpamaa.Sh
attribute [local go_sem] max2_int min2_int max_two min_two max_three min_three max_four min_four
set_option linter.unusedVariables false
set_option linter.unusedSimpArgs false
def impl_hitsIn.l0 : Nat → Int → List Bool → Int → Int → Option (Int)
 | 0, _, _, _, _ => none
 | k + 1, x3, x6, x7, x8 => if x8 < x7 then (if 0 ≤ x8 then (if x8 < (x6.length : Int) then (if rdOf false x6 x8 = true then (impl_hitsIn.l0 k (wrap64 (x3 + 1)) x6 x7 (wrap64 (x8 + 1))) else (impl_hitsIn.l0 k x3 x6 x7 (wrap64 (x8 + 1)))) else (none)) else (none)) else (some x3)
def impl_hitsIn.f (k : Nat) (l0 : List Bool) : Option (Int) := impl_hitsIn.l0 k 0 l0 (l0.length : Int) 0
theorem impl_hitsIn.mono_l : ∀ k, (∀ y0 y1 y2 y3, LeO (impl_hitsIn.l0 k y0 y1 y2 y3) (impl_hitsIn.l0 (k + 1) y0 y1 y2 y3))
 | 0 => fun _ _ _ _ r h => by simp [impl_hitsIn.l0] at h
 | k + 1 => by
  have ih0 := impl_hitsIn.mono_l k
  ·intro y0 y1 y2 y3
   unfold impl_hitsIn.l0
   repeat' first | (with_reducible first | exact ih0 _ _ _ _ | exact LeO.refl _ | exact LeO.none _ | refine LeO.ite ?_ ?_ | refine LeO.bind ?_ (fun _ => ?_)) | exact LeO.none _ | refine LeO.ite ?_ ?_ | refine LeO.bind ?_ (fun _ => ?_)
theorem impl_hitsIn.mono : ∀ a0 k, LeO (impl_hitsIn.f k a0) (impl_hitsIn.f (k + 1) a0) := by
 intro a0 k
 have ih0 := impl_hitsIn.mono_l k
 unfold impl_hitsIn.f
 repeat' first | (with_reducible first | exact ih0 _ _ _ _ | exact LeO.refl _ | exact LeO.none _ | refine LeO.ite ?_ ?_ | refine LeO.bind ?_ (fun _ => ?_)) | exact LeO.none _ | refine LeO.ite ?_ ?_ | refine LeO.bind ?_ (fun _ => ?_)
set_option maxHeartbeats 8000000 in
set_option maxRecDepth 100000 in
theorem impl_hitsIn.calls (k : Nat) (A0 : Option Addr) (c0 : Nat) (l0 : List Bool) (r : Int) (w : World) (hr0 : Kd.C Kd.bool w A0 l0.length l0) (hc0 : l0.length ≤ c0) (h : impl_hitsIn.f k l0 = some r) :
  Calls Try.prog 52 #[.slice A0 l0.length c0] w fun e w' => e = .returned (.int .i64 r) ∧ Drawn0 w w' := by
 have HR0 := Aside0.mk hr0
 have HC0 := Aside0.mk hc0
 clear hr0 hc0
 have H : (impl_hitsIn.l0 k 0 l0 (l0.length : Int) 0) = some r := h
 clear h
 have H' := Aside0.mk H
 clear H
 go_enter Try.func52, Try.ntmps52
 go_wp2
 go_loopg [3, 8] k (fun kq v3 v8 w' => ∃ (x3_1 : Int) (x8_1 : Int), v3 = .int .i64 x3_1 ∧ v8 = .int .i64 x8_1 ∧ Aside0 (impl_hitsIn.l0 kq x3_1 l0 (l0.length : Int) x8_1 = some r) ∧ Aside0 (kq ≤ k) ∧ Drawn0 w w')
 case atStart => exact ⟨(0), (0), RS, RS, H', ⟨Nat.le_refl _⟩, DR⟩
 case round =>
  clear H'
  obtain ⟨x3_1, x8_1, rfl, rfl, HA, HK1, ⟨m1, rfl⟩⟩ := hrel
  cases gk with
  | zero => exact absurd HA.out (by simp [impl_hitsIn.l0])
  | succ k1 =>
   have H := HA.out
   clear HA
   simp only [impl_hitsIn.l0] at H
   by_cases c2 : x8_1 < (l0.length : Int)
   ·rw [if_pos c2] at H
    have c2b0 : decide (x8_1 < (l0.length : Int)) = true := decide_eq_true c2
    clear c2
    by_cases c3 : 0 ≤ x8_1
    ·rw [if_pos c3] at H
     have c3b0 : decide (0 ≤ x8_1) = true := decide_eq_true c3
     clear c3
     by_cases c4 : x8_1 < (l0.length : Int)
     ·rw [if_pos c4] at H
      have c4b0 : decide (x8_1 < (l0.length : Int)) = true := decide_eq_true c4
      clear c4
      obtain ⟨bq5, hbq5⟩ : ∃ b_ : Bool, b_ = (rdOf false l0 x8_1) := ⟨_, rfl⟩
      replace H : (if bq5 = true then (impl_hitsIn.l0 k1 (wrap64 (x3_1 + 1)) l0 (l0.length : Int) (wrap64 (x8_1 + 1))) else (impl_hitsIn.l0 k1 x3_1 l0 (l0.length : Int) (wrap64 (x8_1 + 1)))) = some r := by rw [← hbq5] at H; exact H
      have Nbq5 := Aside0.mk hbq5
      clear hbq5
      by_cases c6 : bq5 = true
      ·subst c6
       replace H := IP H
       have H' := Aside0.mk H
       clear H
       have p1298 : 0 ≤ (x8_1 : Int) := of_decide_eq_true AS
       have q1298 : x8_1 < (l0.length : Int) := of_decide_eq_true AS
       obtain ⟨ad1298, e1298, hx1298_0⟩ := Kd.at_bool HR0.out x8_1 p1298 q1298
       (try rw [← Nbq5.out] at hx1298_0)
       cases e1298
       replace p1298 := eq_true p1298
       replace q1298 := eq_true q1298
       go_wp2
       go_roundg k1
       case measure => have := HK1.out; omega
       case rel => exact ⟨(wrap64 (x3_1 + 1)), (wrap64 (x8_1 + 1)), RS, RS, H', ⟨by have := HK1.out; omega⟩, DR⟩
      ·replace c6 := Bool.eq_false_iff.mpr c6
       subst c6
       replace H := IN H
       have H' := Aside0.mk H
       clear H
       have p1298 : 0 ≤ (x8_1 : Int) := of_decide_eq_true AS
       have q1298 : x8_1 < (l0.length : Int) := of_decide_eq_true AS
       obtain ⟨ad1298, e1298, hx1298_0⟩ := Kd.at_bool HR0.out x8_1 p1298 q1298
       (try rw [← Nbq5.out] at hx1298_0)
       cases e1298
       replace p1298 := eq_true p1298
       replace q1298 := eq_true q1298
       go_wp2
       go_roundg k1
       case measure => have := HK1.out; omega
       case rel => exact ⟨(x3_1), (wrap64 (x8_1 + 1)), RS, RS, H', ⟨by have := HK1.out; omega⟩, DR⟩
     ·rw [if_neg c4] at H
      exact absurd H (by simp)
    ·rw [if_neg c3] at H
     exact absurd H (by simp)
   ·rw [if_neg c2] at H
    have c2b0 : decide (x8_1 < (l0.length : Int)) = false := decide_eq_false c2
    clear c2
    obtain rfl := Option.some.inj H
    go_wp2
    go_ret
    exact ⟨by first | rfl | (simp; done) | (simp [*]; done), DR⟩
end Go.Proofs.Ytanakbmhclpamaa.G

namespace Go.Proofs.Ytanakbmhclpamaa.G
open Go.RowKit Go.Proofs.YtanakbmhclpamaaW.PrintWords Go.Proofs.YtanakbmhclpamaaW.PrintLast Go.Proofs.YtanakbmhclpamaaW.PrintMore Go.Proofs.Ytanakbmhclpamaa.Sh
attribute [local go_sem] max2_int min2_int max_two min_two max_three min_three max_four min_four
set_option linter.unusedVariables false
set_option linter.unusedSimpArgs false
open Go.Proofs.Ytanakbmhclpamaa.Mm
def impl_CountOf.j0 : Nat → List ByteArray → Bool → Int → Int → Int → Option (Int × Int × Int × Int)
 | 0, _, _, _, _, _ => none
 | k + 1, x1, x16, x1300000, x1300001, x1300002 => if x16 = true then (some (0, 0, 0, 0)) else ((impl_asked.f k x1300000 x1300001 x1300002 x1).bind fun bt1303 => ((impl_hitsIn.f k bt1303.2.2.2.2.2.2.2.2.1).bind fun t1324 => (some ((x1.length : Int), t1324, wrap64 ((x1.length : Int) - t1324), bt1303.2.2.2.2.2.2.2.2.2))))
def impl_CountOf.f (k : Nat) (a0_0 : Int) (a0_1 : Int) (a0_2 : Int) (l1 : List ByteArray) : Option (Int × Int × Int × Int) := (impl_SetupOk.f k a0_0 a0_1 a0_2).bind fun t1301 => (if t1301 = true then ((impl_AsksOk.f k l1).bind fun t1302 => (impl_CountOf.j0 k l1 (!t1302) a0_0 a0_1 a0_2)) else (impl_CountOf.j0 k l1 true a0_0 a0_1 a0_2))
theorem impl_CountOf.mono_l : ∀ k, (∀ y0 y1 y2 y3 y4, LeO (impl_CountOf.j0 k y0 y1 y2 y3 y4) (impl_CountOf.j0 (k + 1) y0 y1 y2 y3 y4))
 | 0 => fun _ _ _ _ _ r h => by simp [impl_CountOf.j0] at h
 | k + 1 => by
  have ih0 := impl_CountOf.mono_l k
  ·intro y0 y1 y2 y3 y4
   unfold impl_CountOf.j0
   repeat' first | (with_reducible first | exact ih0 _ _ _ _ _ | exact impl_AsksOk.mono _ _ | exact impl_SetupOk.mono _ _ _ _ | exact impl_asked.mono _ _ _ _ _ | exact impl_hitsIn.mono _ _ | exact LeO.refl _ | exact LeO.none _ | refine LeO.ite ?_ ?_ | refine LeO.bind ?_ (fun _ => ?_)) | exact LeO.none _ | refine LeO.ite ?_ ?_ | refine LeO.bind ?_ (fun _ => ?_)
theorem impl_CountOf.mono : ∀ a0 a1 a2 a3 k, LeO (impl_CountOf.f k a0 a1 a2 a3) (impl_CountOf.f (k + 1) a0 a1 a2 a3) := by
 intro a0 a1 a2 a3 k
 have ih0 := impl_CountOf.mono_l k
 unfold impl_CountOf.f
 repeat' first | (with_reducible first | exact ih0 _ _ _ _ _ | exact impl_AsksOk.mono _ _ | exact impl_SetupOk.mono _ _ _ _ | exact impl_asked.mono _ _ _ _ _ | exact impl_hitsIn.mono _ _ | exact LeO.refl _ | exact LeO.none _ | refine LeO.ite ?_ ?_ | refine LeO.bind ?_ (fun _ => ?_)) | exact LeO.none _ | refine LeO.ite ?_ ?_ | refine LeO.bind ?_ (fun _ => ?_)
set_option maxHeartbeats 8000000 in
set_option maxRecDepth 100000 in
theorem impl_CountOf.calls (k : Nat) (a0_0 : Int) (a0_1 : Int) (a0_2 : Int) (A1 : Option Addr) (c1 : Nat) (l1 : List ByteArray) (r1 : Int) (r2 : Int) (r3 : Int) (r4 : Int) (w : World) (hr1 : Kd.C Kd.string w A1 l1.length l1) (hc1 : l1.length ≤ c1) (h : impl_CountOf.f k a0_0 a0_1 a0_2 l1 = some (r1, r2, r3, r4)) :
  Calls Try.prog 22 #[.agg #[.int .i64 a0_0, .int .i64 a0_1, .int .i64 a0_2], .slice A1 l1.length c1] w fun e w' => e = .returned (.agg #[.int .i64 r1, .int .i64 r2, .int .i64 r3, .int .i64 r4]) ∧ Mem w [] w' [] := by
 have hu28 := Try.underlying28
 have hu36 := Try.underlying36
 have HR1 := Aside0.mk hr1
 have HC1 := Aside0.mk hc1
 clear hr1 hc1
 have HM := Mem.nil w
 have H := h
 clear h
 unfold impl_CountOf.f at H
 go_enter Try.func22, Try.ntmps22
 have HC5 := Aside0.mk H
 clear H
 go_upto_region 1 with (first | ((with_reducible refine gN 2 rfl ?_); refine pB 2 28 [.int .i64 a0_0, .int .i64 a0_1, .int .i64 a0_2] HM rfl ?_; clear HM; intro gb1299 w3 HM) | ((with_reducible refine gN 4 rfl ?_); refine pB 4 36 [.int .i64 0, .int .i64 0, .int .i64 0, .int .i64 0] HM rfl ?_; clear HM; intro gb1300 w4 HM))
 replace HM := nzM HM
 try simp only [Act.put, List.setIfInBounds_toArray, List.set_cons_zero, List.set_cons_succ]
 go_cut [16] (fun v16 wc => ∃ (kq : Nat) (x16_4 : Bool), v16 = .bool x16_4 ∧ Aside0 (impl_CountOf.j0 kq l1 x16_4 a0_0 a0_1 a0_2 = some (r1, r2, r3, r4)) ∧ Aside0 (kq ≤ k) ∧ Mem w [] wc [box 28 gb1299 [.int .i64 a0_0, .int .i64 a0_1, .int .i64 a0_2], box 36 gb1300 [.int .i64 0, .int .i64 0, .int .i64 0, .int .i64 0]])
 case first =>
  have H := HC5.out
  clear HC5
  replace H := BN H; obtain ⟨t1301, A7, H⟩ := H
  replace H := IB H
  rcases H with ⟨c9, H⟩ | ⟨c9, H⟩
  ·subst c9
   replace H := BN H; obtain ⟨t1302, A10, H⟩ := H
   have H' := Aside0.mk H
   clear H
   obtain ⟨z6_0, z6_1, z6_2, Z6_0, Z6_1, Z6_2⟩ := bk3 (HM.bx 0 rfl)
   go_wp2_with (first | ((with_reducible refine gC 39 rfl ?_); refine pC (some 10) rfl #[.agg #[.int .i64 a0_0, .int .i64 a0_1, .int .i64 a0_2]] rfl Try.func39 (impl_SetupOk.calls k a0_0 a0_1 a0_2 true _ A7.out) ?_; rintro e w8 ⟨rfl, hR⟩; refine ⟨_, rfl, ?_⟩; replace HM := HM.call hR; clear hR) | ((with_reducible refine gC 42 rfl ?_); refine pC (some 14) rfl #[.slice A1 l1.length c1] rfl Try.func42 (impl_AsksOk.calls k _ _ l1 t1302 _ (HM.came HR1.out) HC1.out A10.out) ?_; rintro e w11 ⟨rfl, hR⟩; refine ⟨_, rfl, ?_⟩; replace HM := HM.call hR; clear hR))
   go_meet
   case rel => exact ⟨_, (!t1302), RS, H', ⟨by first | omega | exact Nat.le_refl _⟩, (MD HM).pick [0, 1]⟩
  ·subst c9
   have H' := Aside0.mk H
   clear H
   obtain ⟨z6_0, z6_1, z6_2, Z6_0, Z6_1, Z6_2⟩ := bk3 (HM.bx 0 rfl)
   go_wp2_with (first | ((with_reducible refine gC 39 rfl ?_); refine pC (some 10) rfl #[.agg #[.int .i64 a0_0, .int .i64 a0_1, .int .i64 a0_2]] rfl Try.func39 (impl_SetupOk.calls k a0_0 a0_1 a0_2 false _ A7.out) ?_; rintro e w8 ⟨rfl, hR⟩; refine ⟨_, rfl, ?_⟩; replace HM := HM.call hR; clear hR))
   go_meet
   case rel => exact ⟨_, (true), RS, H', ⟨by first | omega | exact Nat.le_refl _⟩, (MD HM).pick [0, 1]⟩
 case rest =>
  clear HC5 HM
  obtain ⟨kq, x16_4, rfl, HA, HJ4, HM⟩ := hcut
  cases kq with
  | zero => exact absurd HA.out (by simp [impl_CountOf.j0])
  | succ kj4 =>
   have H := HA.out
   clear HA
   simp only [impl_CountOf.j0] at H
   go_upto_if 16 with (fail)
   replace H := IB H
   rcases H with ⟨c12, H⟩ | ⟨c12, H⟩
   ·subst c12
    simp only [Option.some.injEq, Prod.mk.injEq] at H
    obtain ⟨rfl, rfl, rfl, rfl⟩ := H
    go_wp2_with (first | ((with_reducible refine gS 4 rfl ?_); refine pS 1 4 0 [.int .i64 0, .int .i64 0, .int .i64 0, .int .i64 0] HM rfl rfl ?_; clear HM; intro w13 HM))
    refine bodyPost_ret (results_cell_row rfl _ _ gb1300 36 #[.int .i64 0, .int .i64 0, .int .i64 0, .int .i64 0] (0, 0) _ rfl (HM.bx 1 rfl) Try.underlying36 rfl (by kernel_rfl)) rfl ?_
    exact ⟨ER, (MD HM).pick []⟩
   ·subst c12
    replace H := BN H; obtain ⟨⟨t1303, t1304, t1305, t1308, t1309, t1310, t1313, t1316, t1319, t1322⟩, A15, H⟩ := H
    replace H := BN H; obtain ⟨t1324, A17, H⟩ := H
    simp only [Option.some.injEq, Prod.mk.injEq] at H
    obtain ⟨rfl, rfl, rfl, rfl⟩ := H
    obtain ⟨z14_0, z14_1, z14_2, Z14_0, Z14_1, Z14_2⟩ := bk3 (HM.bx 0 rfl)
    go_wp2_with (first | ((with_reducible refine gC 50 rfl ?_); refine pC (some 21) rfl #[.agg #[.int .i64 a0_0, .int .i64 a0_1, .int .i64 a0_2], .slice A1 l1.length c1] rfl Try.func50 (impl_asked.calls kj4 a0_0 a0_1 a0_2 _ _ l1 t1303 t1304 t1305 t1308 t1309 t1310 t1313 t1316 t1319 t1322 _ (HM.came HR1.out) HC1.out A15.out) ?_; rintro e w16 ⟨v1306, v1311, v1314, v1317, v1320, gb1323, rfl, hR⟩; refine ⟨_, rfl, ?_⟩; replace HM := HM.call hR; clear hR; obtain ⟨Xo19, ko19, eo19⟩ := HM.rdR 6 rfl; subst eo19) | ((with_reducible refine gC 52 rfl ?_); refine pC (some 26) rfl #[.slice Xo19 t1319.length ko19] rfl Try.func52 (impl_hitsIn.calls kj4 _ _ t1319 t1324 _ (HM.CR 6 rfl).2.2 (HM.CR 6 rfl).2.1 A17.out) ?_; rintro e w18 ⟨rfl, hd⟩; refine ⟨_, rfl, ?_⟩; replace HM := HM.drawn hd; clear hd) | ((with_reducible refine gS 4 rfl ?_); refine pS 1 4 0 [.int .i64 (l1.length : Int), .int .i64 t1324, .int .i64 (wrap64 ((l1.length : Int) - t1324)), .int .i64 t1322] HM rfl rfl ?_; clear HM; intro w20 HM))
    refine bodyPost_ret (results_cell_row rfl _ _ gb1300 36 #[.int .i64 (l1.length : Int), .int .i64 t1324, .int .i64 (wrap64 ((l1.length : Int) - t1324)), .int .i64 t1322] (0, 0) _ rfl (HM.bx 1 rfl) Try.underlying36 rfl (by kernel_rfl)) rfl ?_
    exact ⟨ER, (MD HM).pick []⟩
def spec_RowKeys.l0 : Nat → List ByteArray → List (S76) → Int → Int → Option (List ByteArray)
 | 0, _, _, _, _ => none
 | k + 1, x3, x12, x13, x14 => if x14 < x13 then (if 0 ≤ x14 then (if x14 < (x12.length : Int) then (if x3.length < 8796093022208 then (spec_RowKeys.l0 k (x3 ++ [(rd_T76 x12 x14).f0]) x12 x13 (wrap64 (x14 + 1))) else (none)) else (none)) else (none)) else (some x3)
def spec_RowKeys.f (k : Nat) (a0_0 : Int) (a0_1 : Int) (l0_2 : List (S76)) : Option (List ByteArray) := (some (([] : List ByteArray) : List ByteArray)).bind fun y1357 => ((spec_RowOk.f k a0_0 a0_1 l0_2).bind fun t1360 => (if t1360 = true then (spec_RowKeys.l0 k y1357 l0_2 (l0_2.length : Int) 0) else (some y1357)))
theorem spec_RowKeys.mono_l : ∀ k, (∀ y0 y1 y2 y3, LeO (spec_RowKeys.l0 k y0 y1 y2 y3) (spec_RowKeys.l0 (k + 1) y0 y1 y2 y3))
 | 0 => fun _ _ _ _ r h => by simp [spec_RowKeys.l0] at h
 | k + 1 => by
  have ih0 := spec_RowKeys.mono_l k
  ·intro y0 y1 y2 y3
   unfold spec_RowKeys.l0
   repeat' first | (with_reducible first | exact ih0 _ _ _ _ | exact spec_RowOk.mono _ _ _ _ | exact LeO.refl _ | exact LeO.none _ | refine LeO.ite ?_ ?_ | refine LeO.bind ?_ (fun _ => ?_)) | exact LeO.none _ | refine LeO.ite ?_ ?_ | refine LeO.bind ?_ (fun _ => ?_)
theorem spec_RowKeys.mono : ∀ a0 a1 a2 k, LeO (spec_RowKeys.f k a0 a1 a2) (spec_RowKeys.f (k + 1) a0 a1 a2) := by
 intro a0 a1 a2 k
 have ih0 := spec_RowKeys.mono_l k
 unfold spec_RowKeys.f
 repeat' first | (with_reducible first | exact ih0 _ _ _ _ | exact spec_RowOk.mono _ _ _ _ | exact LeO.refl _ | exact LeO.none _ | refine LeO.ite ?_ ?_ | refine LeO.bind ?_ (fun _ => ?_)) | exact LeO.none _ | refine LeO.ite ?_ ?_ | refine LeO.bind ?_ (fun _ => ?_)
set_option maxHeartbeats 8000000 in
set_option maxRecDepth 100000 in
theorem spec_RowKeys.calls (k : Nat) (a0_0 : Int) (a0_1 : Int) (A0_2 : Option Addr) (c0_2 : Nat) (l0_2 : List (S76)) (r : List ByteArray) (w : World) (hr0_2 : Kd.C k76 w A0_2 l0_2.length l0_2) (hc0_2 : l0_2.length ≤ c0_2) (h : spec_RowKeys.f k a0_0 a0_1 l0_2 = some r) :
  Calls Try.prog 53 #[.agg #[.int .i64 a0_0, .int .i64 a0_1, .slice A0_2 l0_2.length c0_2]] w fun e w' => ∃ v0_ : Value, e = .returned (v0_) ∧ Mem w [] w' [rowR Kd.string 9 v0_ r] := by
 have hu46 := Try.underlying46
 have hu76 := Try.underlying76
 have HR0_2 := Aside0.mk hr0_2
 have HC0_2 := Aside0.mk hc0_2
 clear hr0_2 hc0_2
 have HM := Mem.nil w
 have H := h
 clear h
 unfold spec_RowKeys.f at H
 go_enter Try.func53, Try.ntmps53
 replace H := BLt H; obtain ⟨y1357, Ny1357, H⟩ := H
 replace Ny1357 := Aside0.mk Ny1357
 replace H := BN H; obtain ⟨t1360, A5, H⟩ := H
 go_upto_if 9 with (first | ((with_reducible refine gN 1 rfl ?_); refine pB 1 46 [.int .i64 a0_0, .int .i64 a0_1, .slice A0_2 l0_2.length c0_2] HM rfl ?_; clear HM; intro gb1356 w2 HM) | ((with_reducible refine gN 6 rfl ?_); refine pL 6 Kd.string 9 ([] : List ByteArray) [] (Reps.none _ _) HM rfl ?_; clear HM; intro v1358 w3 HM; replace HM := HM.nm 1 rfl Ny1357.out; obtain ⟨z4_0, z4_1, z4_2, Z4_0, Z4_1, Z4_2⟩ := bk3 (HM.bx 0 rfl)) | ((with_reducible refine gC 77 rfl ?_); refine pC (some 8) rfl #[.agg #[.int .i64 a0_0, .int .i64 a0_1, .slice A0_2 l0_2.length c0_2]] rfl Try.func77 (spec_RowOk.calls k a0_0 a0_1 _ _ l0_2 t1360 _ (HM.came HR0_2.out) HC0_2.out A5.out) ?_; rintro e w6 ⟨rfl, hR⟩; refine ⟨_, rfl, ?_⟩; replace HM := HM.call hR; clear hR))
 replace HM := nzM HM
 replace H := IB H
 rcases H with ⟨c7, H⟩ | ⟨c7, H⟩
 ·subst c7
  have H' := Aside0.mk H
  clear H
  obtain ⟨z8_0, z8_1, z8_2, Z8_0, Z8_1, Z8_2⟩ := bk3 (HM.bx 0 rfl)
  go_wp2
  go_loopg [3, 14] k (fun kq v3 v14 w' => ∃ (x3_1 : List ByteArray) (x14_1 : Int), v14 = .int .i64 x14_1 ∧ Aside0 (spec_RowKeys.l0 kq x3_1 l0_2 (l0_2.length : Int) x14_1 = some r) ∧ Aside0 (kq ≤ k) ∧ Mem w [] w' [rowR Kd.string 9 v3 x3_1, box 46 gb1356 [.int .i64 a0_0, .int .i64 a0_1, .slice A0_2 l0_2.length c0_2]])
  case atStart => exact ⟨(y1357), (0), RS, H', ⟨Nat.le_refl _⟩, (MD HM).pick [1, 0]⟩
  case round =>
   clear H' HM
   obtain ⟨x3_1, x14_1, rfl, HA, HK1, HM⟩ := hrel
   cases gk with
   | zero => exact absurd HA.out (by simp [spec_RowKeys.l0])
   | succ k1 =>
    have H := HA.out
    clear HA
    simp only [spec_RowKeys.l0] at H
    go_upto_if 15 with (fail)
    replace H := IT H; rcases H with ⟨c9, H⟩ | ⟨c9, H⟩
    ·have c9b0 : decide (x14_1 < (l0_2.length : Int)) = true := decide_eq_true c9
     clear c9
     (first | rw [c9b0] | (simp only [i64_w, i32_w]; rw [c9b0]) | skip)
     replace H := GD H; obtain ⟨c10, H⟩ := H
     have c10b0 : decide (0 ≤ x14_1) = true := decide_eq_true c10
     clear c10
     replace H := GD H; obtain ⟨c11, H⟩ := H
     have c11b0 : decide (x14_1 < (l0_2.length : Int)) = true := decide_eq_true c11
     clear c11
     replace H := GD H; obtain ⟨c15, H⟩ := H
     have LMc15 := Aside0.mk c15
     clear c15
     have H' := Aside0.mk H
     clear H
     have p1361 : 0 ≤ (x14_1 : Int) := of_decide_eq_true AS
     have q1361 : (x14_1 : Int) < (l0_2.length : Int) := of_decide_eq_true AS
     obtain ⟨ad1361, e1361, hx1361_0, hx1361_1, hx1361_2⟩ := at_T76 (HM.came HR0_2.out) x14_1 p1361 q1361
     cases e1361
     replace p1361 := eq_true p1361
     replace q1361 := eq_true q1361
     go_wp2_with (first | ((with_reducible refine gN 5 rfl ?_); refine pB 5 76 [.string (⟨#[]⟩ : ByteArray), .string (⟨#[]⟩ : ByteArray), .int .i64 0] HM rfl ?_; clear HM; intro gb1362 w12 HM) | ((with_reducible refine gS 5 rfl ?_); refine pS 2 5 0 [.string ((rd_T76 l0_2 x14_1).f0), .string ((rd_T76 l0_2 x14_1).f1), .int .i64 ((rd_T76 l0_2 x14_1).f2)] HM rfl rfl ?_; clear HM; intro w13 HM; obtain ⟨z14_0, z14_1, z14_2, Z14_0, Z14_1, Z14_2⟩ := bk3 (HM.bx 2 rfl)) | ((with_reducible refine gN 21 rfl ?_); refine pL 21 Kd.string 9 [(rd_T76 l0_2 x14_1).f0] [.string ((rd_T76 l0_2 x14_1).f0)] (Reps.one (show Kd.M Kd.string _ _ _ ((rd_T76 l0_2 x14_1).f0) [.string ((rd_T76 l0_2 x14_1).f0)] from rfl) (Reps.none _ _)) HM rfl ?_; clear HM; intro v17 w16 HM; obtain ⟨Xv17, kv17, ev17⟩ := HM.rdR 3 rfl; subst ev17) | ((with_reducible refine gate_builtin (b := .append) (xs := #[.tmp 18, .tmp 21]) rfl ?_); refine pA 0 (.tmp 18) (.tmp 21) 24 9 Kd.string u3 x3_1 [(rd_T76 l0_2 x14_1).f0] Xv17 ([(rd_T76 l0_2 x14_1).f0].length) kv17 HM rfl Try.underlying24 info9 rfl (HM.CR 3 rfl).2.2 (by have h_ := LMc15.out; simp only [List.length_singleton]; omega) ?_; clear HM; intro v1364 w18 HM))
     go_roundg k1
     case measure => have := HK1.out; omega
     case rel => exact ⟨((x3_1 ++ [(rd_T76 l0_2 x14_1).f0])), (wrap64 (x14_1 + 1)), RS, H', ⟨by have := HK1.out; omega⟩, (MD HM).pick [0, 1]⟩
    ·have c9b0 : decide (x14_1 < (l0_2.length : Int)) = false := decide_eq_false c9
     clear c9
     (first | rw [c9b0] | (simp only [i64_w, i32_w]; rw [c9b0]) | skip)
     obtain rfl := Option.some.inj H
     go_wp2
     go_ret
     exact ⟨_, ER, (MD HM).pick [0]⟩
 ·subst c7
  obtain rfl := Option.some.inj H
  go_wp2
  go_ret
  exact ⟨_, ER, (MD HM).pick [1]⟩
mutual
def spec_Holds.j0 : Nat → List ByteArray → Bool → Int → Int → Int → Option (List ByteArray)
 | 0, _, _, _, _, _ => none
 | k + 1, x1, x18, x1367000, x1367001, x1367002 => if x18 = true then (some ([] : List ByteArray)) else ((spec_l12Go.f k x1367000 x1367001 x1367002 x1).bind fun bt1369 => (if x1367000 = 4 then ((some (([] : List (S76)) : List (S76))).bind fun y1396 => (if y1396.length + bt1369.2.2.1.length < 3518437208883 then ((some (y1396 ++ bt1369.2.2.1 : List (S76))).bind fun y1399 => (if y1399.length + bt1369.2.2.2.1.length < 3518437208883 then ((some (y1399 ++ bt1369.2.2.2.1 : List (S76))).bind fun y1402 => (spec_Holds.l0 k (([] : List ByteArray)) y1402 (y1402.length : Int) 0)) else (none))) else (none))) else ((spec_RowKeys.f k bt1369.2.2.2.2.2.1 bt1369.2.2.2.2.2.2.1 bt1369.2.2.2.2.2.2.2.1).bind fun t1390 => (some t1390))))
def spec_Holds.l0 : Nat → List ByteArray → List (S76) → Int → Int → Option (List ByteArray)
 | 0, _, _, _, _ => none
 | k + 1, x8, x41, x42, x43 => if x43 < x42 then (if 0 ≤ x43 then (if x43 < (x41.length : Int) then (if x8.length < 8796093022208 then (spec_Holds.l0 k (x8 ++ [(rd_T76 x41 x43).f0]) x41 x42 (wrap64 (x43 + 1))) else (none)) else (none)) else (none)) else (some x8)
end
def spec_Holds.f (k : Nat) (a0_0 : Int) (a0_1 : Int) (a0_2 : Int) (l1 : List ByteArray) : Option (List ByteArray) := (spec_SetupOk.f k a0_0 a0_1 a0_2).bind fun t1367 => (if t1367 = true then ((spec_AsksOk.f k l1).bind fun t1368 => (spec_Holds.j0 k l1 (!t1368) a0_0 a0_1 a0_2)) else (spec_Holds.j0 k l1 true a0_0 a0_1 a0_2))
theorem spec_Holds.mono_l : ∀ k, (∀ y0 y1 y2 y3 y4, LeO (spec_Holds.j0 k y0 y1 y2 y3 y4) (spec_Holds.j0 (k + 1) y0 y1 y2 y3 y4)) ∧ (∀ y0 y1 y2 y3, LeO (spec_Holds.l0 k y0 y1 y2 y3) (spec_Holds.l0 (k + 1) y0 y1 y2 y3))
 | 0 => ⟨fun _ _ _ _ _ r h => by simp [spec_Holds.j0] at h, fun _ _ _ _ r h => by simp [spec_Holds.l0] at h⟩
 | k + 1 => by
  obtain ⟨ih0, ih1⟩ := spec_Holds.mono_l k
  refine ⟨?_, ?_⟩
  ·intro y0 y1 y2 y3 y4
   unfold spec_Holds.j0
   repeat' first | (with_reducible first | exact ih0 _ _ _ _ _ | exact ih1 _ _ _ _ | exact spec_AsksOk.mono _ _ | exact spec_RowKeys.mono _ _ _ _ | exact spec_SetupOk.mono _ _ _ _ | exact spec_l12Go.mono _ _ _ _ _ | exact LeO.refl _ | exact LeO.none _ | refine LeO.ite ?_ ?_ | refine LeO.bind ?_ (fun _ => ?_)) | exact LeO.none _ | refine LeO.ite ?_ ?_ | refine LeO.bind ?_ (fun _ => ?_)
  ·intro y0 y1 y2 y3
   unfold spec_Holds.l0
   repeat' first | (with_reducible first | exact ih0 _ _ _ _ _ | exact ih1 _ _ _ _ | exact spec_AsksOk.mono _ _ | exact spec_RowKeys.mono _ _ _ _ | exact spec_SetupOk.mono _ _ _ _ | exact spec_l12Go.mono _ _ _ _ _ | exact LeO.refl _ | exact LeO.none _ | refine LeO.ite ?_ ?_ | refine LeO.bind ?_ (fun _ => ?_)) | exact LeO.none _ | refine LeO.ite ?_ ?_ | refine LeO.bind ?_ (fun _ => ?_)
theorem spec_Holds.mono : ∀ a0 a1 a2 a3 k, LeO (spec_Holds.f k a0 a1 a2 a3) (spec_Holds.f (k + 1) a0 a1 a2 a3) := by
 intro a0 a1 a2 a3 k
 obtain ⟨ih0, ih1⟩ := spec_Holds.mono_l k
 unfold spec_Holds.f
 repeat' first | (with_reducible first | exact ih0 _ _ _ _ _ | exact ih1 _ _ _ _ | exact spec_AsksOk.mono _ _ | exact spec_RowKeys.mono _ _ _ _ | exact spec_SetupOk.mono _ _ _ _ | exact spec_l12Go.mono _ _ _ _ _ | exact LeO.refl _ | exact LeO.none _ | refine LeO.ite ?_ ?_ | refine LeO.bind ?_ (fun _ => ?_)) | exact LeO.none _ | refine LeO.ite ?_ ?_ | refine LeO.bind ?_ (fun _ => ?_)
def spec_Holds.T7 : Bool × List (List Nat × List Nat) := (true, [([], []), ([], []), ([1], [1]), ([2], [2]), ([0, 3], [0, 3]), ([], []), ([5], [5]), ([6], [6]), ([4, 7, 4], [4, 7]), ([8], [8]), ([], [])])
def spec_Holds.B7 : List Nat := [0, 0, 2, 6, 15, 0, 32, 96, 255, 511, 0]
theorem spec_Holds.tab7 : rtab .any (opsOf Try.f24 7) = spec_Holds.T7 := by kernel_rfl
theorem spec_Holds.bits7 : waitsOk spec_Holds.T7.2 spec_Holds.B7 = true := by kernel_rfl
set_option maxHeartbeats 8000000 in
set_option maxRecDepth 100000 in
theorem spec_Holds.calls (k : Nat) (a0_0 : Int) (a0_1 : Int) (a0_2 : Int) (A1 : Option Addr) (c1 : Nat) (l1 : List ByteArray) (r : List ByteArray) (w : World) (hr1 : Kd.C Kd.string w A1 l1.length l1) (hc1 : l1.length ≤ c1) (h : spec_Holds.f k a0_0 a0_1 a0_2 l1 = some r) :
  Calls Try.prog 24 #[.agg #[.int .i64 a0_0, .int .i64 a0_1, .int .i64 a0_2], .slice A1 l1.length c1] w fun e w' => ∃ v0_ : Value, e = .returned (v0_) ∧ Mem w [] w' [rowR Kd.string 9 v0_ r] := by
 have hu28 := Try.underlying28
 have hu67 := Try.underlying67
 have hu46 := Try.underlying46
 have hu76 := Try.underlying76
 have HR1 := Aside0.mk hr1
 have HC1 := Aside0.mk hc1
 clear hr1 hc1
 have HM := Mem.nil w
 have H := h
 clear h
 unfold spec_Holds.f at H
 go_enter Try.func24, Try.ntmps24
 have HC4 := Aside0.mk H
 clear H
 go_upto_region 1 with (first | ((with_reducible refine gN 2 rfl ?_); refine pB 2 28 [.int .i64 a0_0, .int .i64 a0_1, .int .i64 a0_2] HM rfl ?_; clear HM; intro gb1366 w3 HM))
 go_cut [18] (fun v18 wc => ∃ (kq : Nat) (x18_3 : Bool), v18 = .bool x18_3 ∧ Aside0 (spec_Holds.j0 kq l1 x18_3 a0_0 a0_1 a0_2 = some r) ∧ Aside0 (kq ≤ k) ∧ Mem w [] wc [box 28 gb1366 [.int .i64 a0_0, .int .i64 a0_1, .int .i64 a0_2]])
 case first =>
  have H := HC4.out
  clear HC4
  replace H := BN H; obtain ⟨t1367, A6, H⟩ := H
  replace H := IB H
  rcases H with ⟨c8, H⟩ | ⟨c8, H⟩
  ·subst c8
   replace H := BN H; obtain ⟨t1368, A9, H⟩ := H
   have H' := Aside0.mk H
   clear H
   obtain ⟨z5_0, z5_1, z5_2, Z5_0, Z5_1, Z5_2⟩ := bk3 (HM.bx 0 rfl)
   go_wp2_with (first | ((with_reducible refine gC 47 rfl ?_); refine pC (some 12) rfl #[.agg #[.int .i64 a0_0, .int .i64 a0_1, .int .i64 a0_2]] rfl Try.func47 (spec_SetupOk.calls k a0_0 a0_1 a0_2 true _ A6.out) ?_; rintro e w7 ⟨rfl, hR⟩; refine ⟨_, rfl, ?_⟩; replace HM := HM.call hR; clear hR) | ((with_reducible refine gC 48 rfl ?_); refine pC (some 16) rfl #[.slice A1 l1.length c1] rfl Try.func48 (spec_AsksOk.calls k _ _ l1 t1368 _ (HM.came HR1.out) HC1.out A9.out) ?_; rintro e w10 ⟨rfl, hR⟩; refine ⟨_, rfl, ?_⟩; replace HM := HM.call hR; clear hR))
   go_meet
   case rel => exact ⟨_, (!t1368), RS, H', ⟨by first | omega | exact Nat.le_refl _⟩, (MD HM).pick [0]⟩
  ·subst c8
   have H' := Aside0.mk H
   clear H
   obtain ⟨z5_0, z5_1, z5_2, Z5_0, Z5_1, Z5_2⟩ := bk3 (HM.bx 0 rfl)
   go_wp2_with (first | ((with_reducible refine gC 47 rfl ?_); refine pC (some 12) rfl #[.agg #[.int .i64 a0_0, .int .i64 a0_1, .int .i64 a0_2]] rfl Try.func47 (spec_SetupOk.calls k a0_0 a0_1 a0_2 false _ A6.out) ?_; rintro e w7 ⟨rfl, hR⟩; refine ⟨_, rfl, ?_⟩; replace HM := HM.call hR; clear hR))
   go_meet
   case rel => exact ⟨_, (true), RS, H', ⟨by first | omega | exact Nat.le_refl _⟩, (MD HM).pick [0]⟩
 case rest =>
  clear HC4 HM
  obtain ⟨kq, x18_3, rfl, HA, HJ3, HM⟩ := hcut
  cases kq with
  | zero => exact absurd HA.out (by simp [spec_Holds.j0])
  | succ kj3 =>
   have H := HA.out
   clear HA
   simp only [spec_Holds.j0] at H
   go_upto_if 18 with (fail)
   replace H := IB H
   rcases H with ⟨c11, H⟩ | ⟨c11, H⟩
   ·subst c11
    obtain rfl := Option.some.inj H
    replace HM := HM.nl Kd.string 9
    go_wp2
    go_ret
    exact ⟨_, ER, (MD HM).pick [1]⟩
   ·subst c11
    replace H := BN H; obtain ⟨⟨t1369, t1370, t1371, t1374, t1377, t1380, t1381, t1382, t1385, t1388⟩, A13, H⟩ := H
    obtain ⟨z12_0, z12_1, z12_2, Z12_0, Z12_1, Z12_2⟩ := bk3 (HM.bx 0 rfl)
    go_upto_if 28 with (first | ((with_reducible refine gC 49 rfl ?_); refine pC (some 22) rfl #[.agg #[.int .i64 a0_0, .int .i64 a0_1, .int .i64 a0_2], .slice A1 l1.length c1] rfl Try.func49 (spec_l12Go.calls kj3 a0_0 a0_1 a0_2 _ _ l1 t1369 t1370 t1371 t1374 t1377 t1380 t1381 t1382 t1385 t1388 _ (HM.came HR1.out) HC1.out A13.out) ?_; rintro e w14 ⟨v1372, v1375, v1378, v1383, v1386, rfl, hR⟩; refine ⟨_, rfl, ?_⟩; replace HM := HM.call hR; clear hR) | ((with_reducible refine gN 5 rfl ?_); refine pB 5 67 [.int .i64 0, .int .i64 0, .slice none 0 0, .slice none 0 0, .slice none 0 0, .int .i64 0, .int .i64 0, .slice none 0 0] HM rfl ?_; clear HM; intro gb1389 w15 HM; obtain ⟨Xo16, ko16, eo16⟩ := HM.rdR 1 rfl; subst eo16; obtain ⟨Xo17, ko17, eo17⟩ := HM.rdR 2 rfl; subst eo17; obtain ⟨Xo18, ko18, eo18⟩ := HM.rd 3 rfl; subst eo18; obtain ⟨Xo19, ko19, eo19⟩ := HM.rdR 4 rfl; subst eo19) | ((with_reducible refine gS 5 rfl ?_); refine pS 6 5 0 [.int .i64 t1369, .int .i64 t1370, .slice Xo16 t1371.length ko16, .slice Xo17 t1374.length ko17, .slice Xo18 t1377.length ko18, .int .i64 t1380, .int .i64 t1381, .slice Xo19 t1382.length ko19] HM rfl rfl ?_; clear HM; intro w20 HM; obtain ⟨z21_0, z21_1, z21_2, Z21_0, Z21_1, Z21_2⟩ := bk3 (HM.bx 0 rfl)))
    replace HM := nzM HM
    replace H := IT H; rcases H with ⟨c22, H⟩ | ⟨c22, H⟩
    ·have c22b0 : (a0_0 == 4) = true := beq_iff_eq.mpr c22
     have c22b1 : (a0_0 != 4) = false := bne_eq_false_iff_eq.mpr c22
     clear c22
     (first | rw [c22b0] | (simp only [i64_w, i32_w]; rw [c22b0]) | skip)
     try go_wp2_with (first | ((with_reducible refine gN 32 rfl ?_); refine pL 32 Kd.string 9 ([] : List ByteArray) [] (Reps.none _ _) HM rfl ?_; clear HM; intro v1394 w23 HM))
     replace H := BLt H; obtain ⟨y1396, Ny1396, H⟩ := H
     replace Ny1396 := Aside0.mk Ny1396
     replace H := GD H; obtain ⟨c24, H⟩ := H
     have LMc24 := Aside0.mk c24
     clear c24
     replace H := BLt H; obtain ⟨y1399, Ny1399, H⟩ := H
     replace Ny1399 := Aside0.mk Ny1399
     replace H := GD H; obtain ⟨c25, H⟩ := H
     have LMc25 := Aside0.mk c25
     clear c25
     replace H := BLt H; obtain ⟨y1402, Ny1402, H⟩ := H
     replace Ny1402 := Aside0.mk Ny1402
     refine RGN 11 [0, 1, 2, 3, 4, 5, 6, 7, 8, 9, 10] (fun a0 b a w' => ∃ (v1397 : Value) (v1400 : Value) (v1403 : Value), a = putSel a0 b [(0, 33, v1397), (1, 34, .pointer (some ⟨gb1389, 0, none⟩)), (2, 35, .pointer (some ⟨gb1389, 2, none⟩)), (3, 36, .slice Xo16 t1371.length ko16), (4, 37, v1400), (5, 38, .pointer (some ⟨gb1389, 0, none⟩)), (6, 39, .pointer (some ⟨gb1389, 3, none⟩)), (7, 40, .slice Xo17 t1374.length ko17), (8, 41, v1403), (9, 42, .int .i64 (y1402.length : Int)), (10, 43, .int .i64 0)] ∧ Mem w [] w' [box 28 gb1366 [.int .i64 a0_0, .int .i64 a0_1, .int .i64 a0_2], rowR k76 76 (.slice Xo16 t1371.length ko16) t1371, rowR k76 76 (.slice Xo17 t1374.length ko17) t1374, row (Kd.int .i64) 3 (.slice Xo18 t1377.length ko18) t1377, rowR k76 76 (.slice Xo19 t1382.length ko19) t1382, rowR Kd.bool 4 v1386 t1385, box 67 gb1389 [.int .i64 t1369, .int .i64 t1370, .slice Xo16 t1371.length ko16, .slice Xo17 t1374.length ko17, .slice Xo18 t1377.length ko18, .int .i64 t1380, .int .i64 t1381, .slice Xo19 t1382.length ko19], rowR Kd.string 9 v1394 (([] : List ByteArray)), sel (b 8) (rowR k76 76 v1403 y1402) (sel (b 4) (rowR k76 76 v1400 y1399) (sel (b 0) (rowR k76 76 v1397 y1396) (emp)))]) spec_Holds.tab7 spec_Holds.bits7 ?_ ?_ ?_
     ·exact ⟨.bool false, .bool false, .bool false, PS0' rfl _, (HM.drew.ems 1).pick [0, 1, 2, 3, 4, 5, 6, 7, 8]⟩
     ·clear HM
      refine steps_cons ?_ ?_
      ·rintro b a w ⟨v1397, v1400, v1403, ha, HM⟩ hb hon hoff
       refine ⟨_, rfl, fun K hK => ?_⟩
       replace ha := Aside0.mk ha
       refine ST (eL 33 k76 76 ([] : List (S76)) [] (Reps.none _ _) HM rfl ?_)
       clear HM
       intro v1397 w32 HM
       replace HM := HM.nm 9 rfl Ny1396.out
       exact hK.out _ _ ⟨v1397, v1400, v1403, PUT ha 0 hb, ((HM.iF 9 rfl (hoff 4 (by kernel_rfl))).iF 9 rfl (hoff 8 (by kernel_rfl))).pick [0, 1, 2, 3, 4, 5, 6, 7, 9]⟩
      refine steps_cons ?_ ?_
      ·rintro b a w ⟨v1397, v1400, v1403, ha, HM⟩ hb hon hoff
       refine ⟨_, rfl, fun K hK => ?_⟩
       replace ha := Aside0.mk ha
       have e5 := PG ha 5
       exact VL (.pointer (some ⟨gb1389, 0, none⟩)) (hK.out _ _ ⟨v1397, v1400, v1403, PUT ha 1 hb, HM⟩)
      refine steps_cons ?_ ?_
      ·rintro b a w ⟨v1397, v1400, v1403, ha, HM⟩ hb hon hoff
       refine ⟨_, rfl, fun K hK => ?_⟩
       replace ha := Aside0.mk ha
       have e34 := PE ha 1 hon
       exact VL (.pointer (some ⟨gb1389, 2, none⟩)) (hK.out _ _ ⟨v1397, v1400, v1403, PUT ha 2 hb, HM⟩)
      refine steps_cons ?_ ?_
      ·rintro b a w ⟨v1397, v1400, v1403, ha, HM⟩ hb hon hoff
       refine ⟨_, rfl, fun K hK => ?_⟩
       replace ha := Aside0.mk ha
       obtain ⟨z33_0, z33_1, z33_2, z33_3, z33_4, z33_5, z33_6, z33_7, Z33_0, Z33_1, Z33_2, Z33_3, Z33_4, Z33_5, Z33_6, Z33_7⟩ := bk8 (HM.bx 6 rfl)
       have e35 := PE ha 2 hon
       exact VL (.slice Xo16 t1371.length ko16) (hK.out _ _ ⟨v1397, v1400, v1403, PUT ha 3 hb, HM⟩)
      refine steps_cons ?_ ?_
      ·rintro b a w ⟨v1397, v1400, v1403, ha, HM⟩ hb hon hoff
       refine ⟨_, rfl, fun K hK => ?_⟩
       replace ha := Aside0.mk ha
       replace HM := ((HM.sF 8 rfl (hoff 8 (by kernel_rfl))).sF 8 rfl hb).sT 8 rfl (hon 0 (by kernel_rfl))
       have e33 := PE ha 0 hon
       have e36 := PE ha 3 hon
       refine ST (eA 8 (.tmp 33) (.tmp 36) 44 76 k76 v1397 y1396 t1371 Xo16 t1371.length ko16 HM rfl Try.underlying44 info76 rfl (HM.CR 1 rfl).2.2 (by have h_ := LMc24.out; omega) ?_ (ops := #[]) (hw := by rfl) (hs := (eval_of e33)) (hx := (eval_of e36)))
       clear HM
       intro v1400 w34 HM
       replace HM := HM.nm 8 rfl Ny1399.out
       exact hK.out _ _ ⟨v1397, v1400, v1403, PUT ha 4 hb, (HM.iF 8 rfl (hoff 8 (by kernel_rfl))).pick [0, 1, 2, 3, 4, 5, 6, 7, 8]⟩
      refine steps_cons ?_ ?_
      ·rintro b a w ⟨v1397, v1400, v1403, ha, HM⟩ hb hon hoff
       refine ⟨_, rfl, fun K hK => ?_⟩
       replace ha := Aside0.mk ha
       have e5 := PG ha 5
       exact VL (.pointer (some ⟨gb1389, 0, none⟩)) (hK.out _ _ ⟨v1397, v1400, v1403, PUT ha 5 hb, HM⟩)
      refine steps_cons ?_ ?_
      ·rintro b a w ⟨v1397, v1400, v1403, ha, HM⟩ hb hon hoff
       refine ⟨_, rfl, fun K hK => ?_⟩
       replace ha := Aside0.mk ha
       have e38 := PE ha 5 hon
       exact VL (.pointer (some ⟨gb1389, 3, none⟩)) (hK.out _ _ ⟨v1397, v1400, v1403, PUT ha 6 hb, HM⟩)
      refine steps_cons ?_ ?_
      ·rintro b a w ⟨v1397, v1400, v1403, ha, HM⟩ hb hon hoff
       refine ⟨_, rfl, fun K hK => ?_⟩
       replace ha := Aside0.mk ha
       obtain ⟨z35_0, z35_1, z35_2, z35_3, z35_4, z35_5, z35_6, z35_7, Z35_0, Z35_1, Z35_2, Z35_3, Z35_4, Z35_5, Z35_6, Z35_7⟩ := bk8 (HM.bx 6 rfl)
       have e39 := PE ha 6 hon
       exact VL (.slice Xo17 t1374.length ko17) (hK.out _ _ ⟨v1397, v1400, v1403, PUT ha 7 hb, HM⟩)
      refine steps_cons ?_ ?_
      ·rintro b a w ⟨v1397, v1400, v1403, ha, HM⟩ hb hon hoff
       refine ⟨_, rfl, fun K hK => ?_⟩
       replace ha := Aside0.mk ha
       replace HM := (HM.sF 8 rfl hb).sT 8 rfl (hon 4 (by kernel_rfl))
       have e37 := PE ha 4 hon
       have e40 := PE ha 7 hon
       refine ST (eA 8 (.tmp 37) (.tmp 40) 44 76 k76 v1400 y1399 t1374 Xo17 t1374.length ko17 HM rfl Try.underlying44 info76 rfl (HM.CR 2 rfl).2.2 (by have h_ := LMc25.out; omega) ?_ (ops := #[]) (hw := by rfl) (hs := (eval_of e37)) (hx := (eval_of e40)))
       clear HM
       intro v1403 w36 HM
       replace HM := HM.nm 8 rfl Ny1402.out
       exact hK.out _ _ ⟨v1397, v1400, v1403, PUT ha 8 hb, (HM).pick [0, 1, 2, 3, 4, 5, 6, 7, 8]⟩
      refine steps_cons ?_ ?_
      ·rintro b a w ⟨v1397, v1400, v1403, ha, HM⟩ hb hon hoff
       refine ⟨_, rfl, fun K hK => ?_⟩
       replace ha := Aside0.mk ha
       have HZ := HM
       replace HM := HM.sT 8 rfl (hon 8 (by kernel_rfl))
       obtain ⟨Xo37, ko37, eo37⟩ := HM.rdR 8 rfl
       subst eo37
       have e41 := PE ha 8 hon
       exact VL (.int .i64 (y1402.length : Int)) (hK.out _ _ ⟨v1397, v1400, .slice Xo37 y1402.length ko37, PUT ha 9 hb, HZ⟩)
      refine steps_cons ?_ ?_
      ·rintro b a w ⟨v1397, v1400, v1403, ha, HM⟩ hb hon hoff
       refine ⟨_, rfl, fun K hK => ?_⟩
       replace ha := Aside0.mk ha
       exact VL (.int .i64 0) (hK.out _ _ ⟨v1397, v1400, v1403, PUT ha 10 hb, HM⟩)
      exact steps_nil
     rintro _ w38 ⟨v1397, v1400, v1403, rfl, HM⟩
     replace HM := HM.sT 8 rfl rfl
     simp only [putSel, if_true, Act.put, List.setIfInBounds_toArray, List.set_cons_zero, List.set_cons_succ, gt_iff_lt, ge_iff_le]
     have H' := Aside0.mk H
     clear H
     go_wp2
     go_loopg [8, 43] kj3 (fun kq v8 v43 w' => ∃ (x8_2 : List ByteArray) (x43_2 : Int), v43 = .int .i64 x43_2 ∧ Aside0 (spec_Holds.l0 kq x8_2 y1402 (y1402.length : Int) x43_2 = some r) ∧ Aside0 (kq ≤ kj3) ∧ Mem w [] w' [rowR Kd.string 9 v8 x8_2, rowR k76 76 v1403 y1402, rowR k76 76 (.slice Xo16 t1371.length ko16) t1371, rowR k76 76 (.slice Xo17 t1374.length ko17) t1374, row (Kd.int .i64) 3 (.slice Xo18 t1377.length ko18) t1377, rowR k76 76 (.slice Xo19 t1382.length ko19) t1382, box 28 gb1366 [.int .i64 a0_0, .int .i64 a0_1, .int .i64 a0_2], box 67 gb1389 [.int .i64 t1369, .int .i64 t1370, (.slice Xo16 t1371.length ko16), (.slice Xo17 t1374.length ko17), (.slice Xo18 t1377.length ko18), .int .i64 t1380, .int .i64 t1381, (.slice Xo19 t1382.length ko19)]])
     case atStart => exact ⟨((([] : List ByteArray))), (0), RS, H', ⟨Nat.le_refl _⟩, (MD HM).pick [7, 8, 1, 2, 3, 4, 0, 6]⟩
     case round =>
      clear H' HM
      obtain ⟨x8_2, x43_2, rfl, HA, HK2, HM⟩ := hrel
      cases gk with
      | zero => exact absurd HA.out (by simp [spec_Holds.l0])
      | succ k2 =>
       have H := HA.out
       clear HA
       simp only [spec_Holds.l0] at H
       go_upto_if 44 with (fail)
       replace H := IT H; rcases H with ⟨c39, H⟩ | ⟨c39, H⟩
       ·have c39b0 : decide (x43_2 < (y1402.length : Int)) = true := decide_eq_true c39
        clear c39
        (first | rw [c39b0] | (simp only [i64_w, i32_w]; rw [c39b0]) | skip)
        replace H := GD H; obtain ⟨c40, H⟩ := H
        have c40b0 : decide (0 ≤ x43_2) = true := decide_eq_true c40
        clear c40
        replace H := GD H; obtain ⟨c41, H⟩ := H
        have c41b0 : decide (x43_2 < (y1402.length : Int)) = true := decide_eq_true c41
        clear c41
        replace H := GD H; obtain ⟨c46, H⟩ := H
        have LMc46 := Aside0.mk c46
        clear c46
        have H' := Aside0.mk H
        clear H
        obtain ⟨Xo42, ko42, eo42⟩ := HM.rdR 1 rfl
        subst eo42
        have p1405 : 0 ≤ (x43_2 : Int) := of_decide_eq_true AS
        have q1405 : (x43_2 : Int) < (y1402.length : Int) := of_decide_eq_true AS
        obtain ⟨ad1405, e1405, hx1405_0, hx1405_1, hx1405_2⟩ := at_T76 (HM.CR 1 rfl).2.2 x43_2 p1405 q1405
        cases e1405
        replace p1405 := eq_true p1405
        replace q1405 := eq_true q1405
        go_wp2_with (first | ((with_reducible refine gN 10 rfl ?_); refine pB 10 76 [.string (⟨#[]⟩ : ByteArray), .string (⟨#[]⟩ : ByteArray), .int .i64 0] HM rfl ?_; clear HM; intro gb1406 w43 HM) | ((with_reducible refine gS 10 rfl ?_); refine pS 8 10 0 [.string ((rd_T76 y1402 x43_2).f0), .string ((rd_T76 y1402 x43_2).f1), .int .i64 ((rd_T76 y1402 x43_2).f2)] HM rfl rfl ?_; clear HM; intro w44 HM; obtain ⟨z45_0, z45_1, z45_2, Z45_0, Z45_1, Z45_2⟩ := bk3 (HM.bx 8 rfl)) | ((with_reducible refine gN 50 rfl ?_); refine pL 50 Kd.string 9 [(rd_T76 y1402 x43_2).f0] [.string ((rd_T76 y1402 x43_2).f0)] (Reps.one (show Kd.M Kd.string _ _ _ ((rd_T76 y1402 x43_2).f0) [.string ((rd_T76 y1402 x43_2).f0)] from rfl) (Reps.none _ _)) HM rfl ?_; clear HM; intro v48 w47 HM; obtain ⟨Xv48, kv48, ev48⟩ := HM.rdR 9 rfl; subst ev48) | ((with_reducible refine gate_builtin (b := .append) (xs := #[.tmp 47, .tmp 50]) rfl ?_); refine pA 0 (.tmp 47) (.tmp 50) 24 9 Kd.string u8 x8_2 [(rd_T76 y1402 x43_2).f0] Xv48 ([(rd_T76 y1402 x43_2).f0].length) kv48 HM rfl Try.underlying24 info9 rfl (HM.CR 9 rfl).2.2 (by have h_ := LMc46.out; simp only [List.length_singleton]; omega) ?_; clear HM; intro v1408 w49 HM))
        go_roundg k2
        case measure => have := HJ3.out; have := HK2.out; omega
        case rel => exact ⟨((x8_2 ++ [(rd_T76 y1402 x43_2).f0])), (wrap64 (x43_2 + 1)), RS, H', ⟨by have := HJ3.out; have := HK2.out; omega⟩, (MD HM).pick [0, 1, 2, 3, 4, 5, 6, 7]⟩
       ·have c39b0 : decide (x43_2 < (y1402.length : Int)) = false := decide_eq_false c39
        clear c39
        (first | rw [c39b0] | (simp only [i64_w, i32_w]; rw [c39b0]) | skip)
        obtain rfl := Option.some.inj H
        go_wp2
        go_ret
        exact ⟨_, ER, (MD HM).pick [0]⟩
    ·have c22b0 : (a0_0 == 4) = false := beq_eq_false_iff_ne.mpr c22
     have c22b1 : (a0_0 != 4) = true := bne_iff_ne.mpr c22
     (first | rw [c22b0] | (simp only [i64_w, i32_w]; rw [c22b0]) | skip)
     replace H := BN H; obtain ⟨t1390, A51, H⟩ := H
     obtain rfl := Option.some.inj H
     obtain ⟨z50_0, z50_1, z50_2, z50_3, z50_4, z50_5, z50_6, z50_7, Z50_0, Z50_1, Z50_2, Z50_3, Z50_4, Z50_5, Z50_6, Z50_7⟩ := bk8 (HM.bx 6 rfl)
     go_wp2_with (first | ((with_reducible refine gC 53 rfl ?_); refine pC (some 31) rfl #[.agg #[.int .i64 t1380, .int .i64 t1381, .slice Xo19 t1382.length ko19]] rfl Try.func53 (spec_RowKeys.calls kj3 t1380 t1381 _ _ t1382 t1390 _ (HM.CR 4 rfl).2.2 (HM.CR 4 rfl).2.1 A51.out) ?_; rintro e w52 ⟨v1391, rfl, hR⟩; refine ⟨_, rfl, ?_⟩; replace HM := HM.call hR; clear hR))
     go_ret
     exact ⟨_, ER, (MD HM).pick [7]⟩
def impl_RowKeys.l0 : Nat → List ByteArray → List (S76) → Int → Int → Option (List ByteArray)
 | 0, _, _, _, _ => none
 | k + 1, x3, x12, x13, x14 => if x14 < x13 then (if 0 ≤ x14 then (if x14 < (x12.length : Int) then (if x3.length < 8796093022208 then (impl_RowKeys.l0 k (x3 ++ [(rd_T76 x12 x14).f0]) x12 x13 (wrap64 (x14 + 1))) else (none)) else (none)) else (none)) else (some x3)
def impl_RowKeys.f (k : Nat) (a0_0 : Int) (a0_1 : Int) (l0_2 : List (S76)) : Option (List ByteArray) := (some (([] : List ByteArray) : List ByteArray)).bind fun y1412 => ((impl_RowOk.f k a0_0 a0_1 l0_2).bind fun t1415 => (if t1415 = true then (impl_RowKeys.l0 k y1412 l0_2 (l0_2.length : Int) 0) else (some y1412)))
theorem impl_RowKeys.mono_l : ∀ k, (∀ y0 y1 y2 y3, LeO (impl_RowKeys.l0 k y0 y1 y2 y3) (impl_RowKeys.l0 (k + 1) y0 y1 y2 y3))
 | 0 => fun _ _ _ _ r h => by simp [impl_RowKeys.l0] at h
 | k + 1 => by
  have ih0 := impl_RowKeys.mono_l k
  ·intro y0 y1 y2 y3
   unfold impl_RowKeys.l0
   repeat' first | (with_reducible first | exact ih0 _ _ _ _ | exact impl_RowOk.mono _ _ _ _ | exact LeO.refl _ | exact LeO.none _ | refine LeO.ite ?_ ?_ | refine LeO.bind ?_ (fun _ => ?_)) | exact LeO.none _ | refine LeO.ite ?_ ?_ | refine LeO.bind ?_ (fun _ => ?_)
theorem impl_RowKeys.mono : ∀ a0 a1 a2 k, LeO (impl_RowKeys.f k a0 a1 a2) (impl_RowKeys.f (k + 1) a0 a1 a2) := by
 intro a0 a1 a2 k
 have ih0 := impl_RowKeys.mono_l k
 unfold impl_RowKeys.f
 repeat' first | (with_reducible first | exact ih0 _ _ _ _ | exact impl_RowOk.mono _ _ _ _ | exact LeO.refl _ | exact LeO.none _ | refine LeO.ite ?_ ?_ | refine LeO.bind ?_ (fun _ => ?_)) | exact LeO.none _ | refine LeO.ite ?_ ?_ | refine LeO.bind ?_ (fun _ => ?_)
set_option maxHeartbeats 8000000 in
set_option maxRecDepth 100000 in
theorem impl_RowKeys.calls (k : Nat) (a0_0 : Int) (a0_1 : Int) (A0_2 : Option Addr) (c0_2 : Nat) (l0_2 : List (S76)) (r : List ByteArray) (w : World) (hr0_2 : Kd.C k76 w A0_2 l0_2.length l0_2) (hc0_2 : l0_2.length ≤ c0_2) (h : impl_RowKeys.f k a0_0 a0_1 l0_2 = some r) :
  Calls Try.prog 35 #[.agg #[.int .i64 a0_0, .int .i64 a0_1, .slice A0_2 l0_2.length c0_2]] w fun e w' => ∃ v0_ : Value, e = .returned (v0_) ∧ Mem w [] w' [rowR Kd.string 9 v0_ r] := by
 have hu46 := Try.underlying46
 have hu76 := Try.underlying76
 have HR0_2 := Aside0.mk hr0_2
 have HC0_2 := Aside0.mk hc0_2
 clear hr0_2 hc0_2
 have HM := Mem.nil w
 have H := h
 clear h
 unfold impl_RowKeys.f at H
 go_enter Try.func35, Try.ntmps35
 replace H := BLt H; obtain ⟨y1412, Ny1412, H⟩ := H
 replace Ny1412 := Aside0.mk Ny1412
 replace H := BN H; obtain ⟨t1415, A5, H⟩ := H
 go_upto_if 9 with (first | ((with_reducible refine gN 1 rfl ?_); refine pB 1 46 [.int .i64 a0_0, .int .i64 a0_1, .slice A0_2 l0_2.length c0_2] HM rfl ?_; clear HM; intro gb1411 w2 HM) | ((with_reducible refine gN 6 rfl ?_); refine pL 6 Kd.string 9 ([] : List ByteArray) [] (Reps.none _ _) HM rfl ?_; clear HM; intro v1413 w3 HM; replace HM := HM.nm 1 rfl Ny1412.out; obtain ⟨z4_0, z4_1, z4_2, Z4_0, Z4_1, Z4_2⟩ := bk3 (HM.bx 0 rfl)) | ((with_reducible refine gC 59 rfl ?_); refine pC (some 8) rfl #[.agg #[.int .i64 a0_0, .int .i64 a0_1, .slice A0_2 l0_2.length c0_2]] rfl Try.func59 (impl_RowOk.calls k a0_0 a0_1 _ _ l0_2 t1415 _ (HM.came HR0_2.out) HC0_2.out A5.out) ?_; rintro e w6 ⟨rfl, hR⟩; refine ⟨_, rfl, ?_⟩; replace HM := HM.call hR; clear hR))
 replace HM := nzM HM
 replace H := IB H
 rcases H with ⟨c7, H⟩ | ⟨c7, H⟩
 ·subst c7
  have H' := Aside0.mk H
  clear H
  obtain ⟨z8_0, z8_1, z8_2, Z8_0, Z8_1, Z8_2⟩ := bk3 (HM.bx 0 rfl)
  go_wp2
  go_loopg [3, 14] k (fun kq v3 v14 w' => ∃ (x3_1 : List ByteArray) (x14_1 : Int), v14 = .int .i64 x14_1 ∧ Aside0 (impl_RowKeys.l0 kq x3_1 l0_2 (l0_2.length : Int) x14_1 = some r) ∧ Aside0 (kq ≤ k) ∧ Mem w [] w' [rowR Kd.string 9 v3 x3_1, box 46 gb1411 [.int .i64 a0_0, .int .i64 a0_1, .slice A0_2 l0_2.length c0_2]])
  case atStart => exact ⟨(y1412), (0), RS, H', ⟨Nat.le_refl _⟩, (MD HM).pick [1, 0]⟩
  case round =>
   clear H' HM
   obtain ⟨x3_1, x14_1, rfl, HA, HK1, HM⟩ := hrel
   cases gk with
   | zero => exact absurd HA.out (by simp [impl_RowKeys.l0])
   | succ k1 =>
    have H := HA.out
    clear HA
    simp only [impl_RowKeys.l0] at H
    go_upto_if 15 with (fail)
    replace H := IT H; rcases H with ⟨c9, H⟩ | ⟨c9, H⟩
    ·have c9b0 : decide (x14_1 < (l0_2.length : Int)) = true := decide_eq_true c9
     clear c9
     (first | rw [c9b0] | (simp only [i64_w, i32_w]; rw [c9b0]) | skip)
     replace H := GD H; obtain ⟨c10, H⟩ := H
     have c10b0 : decide (0 ≤ x14_1) = true := decide_eq_true c10
     clear c10
     replace H := GD H; obtain ⟨c11, H⟩ := H
     have c11b0 : decide (x14_1 < (l0_2.length : Int)) = true := decide_eq_true c11
     clear c11
     replace H := GD H; obtain ⟨c15, H⟩ := H
     have LMc15 := Aside0.mk c15
     clear c15
     have H' := Aside0.mk H
     clear H
     have p1416 : 0 ≤ (x14_1 : Int) := of_decide_eq_true AS
     have q1416 : (x14_1 : Int) < (l0_2.length : Int) := of_decide_eq_true AS
     obtain ⟨ad1416, e1416, hx1416_0, hx1416_1, hx1416_2⟩ := at_T76 (HM.came HR0_2.out) x14_1 p1416 q1416
     cases e1416
     replace p1416 := eq_true p1416
     replace q1416 := eq_true q1416
     go_wp2_with (first | ((with_reducible refine gN 5 rfl ?_); refine pB 5 76 [.string (⟨#[]⟩ : ByteArray), .string (⟨#[]⟩ : ByteArray), .int .i64 0] HM rfl ?_; clear HM; intro gb1417 w12 HM) | ((with_reducible refine gS 5 rfl ?_); refine pS 2 5 0 [.string ((rd_T76 l0_2 x14_1).f0), .string ((rd_T76 l0_2 x14_1).f1), .int .i64 ((rd_T76 l0_2 x14_1).f2)] HM rfl rfl ?_; clear HM; intro w13 HM; obtain ⟨z14_0, z14_1, z14_2, Z14_0, Z14_1, Z14_2⟩ := bk3 (HM.bx 2 rfl)) | ((with_reducible refine gN 21 rfl ?_); refine pL 21 Kd.string 9 [(rd_T76 l0_2 x14_1).f0] [.string ((rd_T76 l0_2 x14_1).f0)] (Reps.one (show Kd.M Kd.string _ _ _ ((rd_T76 l0_2 x14_1).f0) [.string ((rd_T76 l0_2 x14_1).f0)] from rfl) (Reps.none _ _)) HM rfl ?_; clear HM; intro v17 w16 HM; obtain ⟨Xv17, kv17, ev17⟩ := HM.rdR 3 rfl; subst ev17) | ((with_reducible refine gate_builtin (b := .append) (xs := #[.tmp 18, .tmp 21]) rfl ?_); refine pA 0 (.tmp 18) (.tmp 21) 24 9 Kd.string u3 x3_1 [(rd_T76 l0_2 x14_1).f0] Xv17 ([(rd_T76 l0_2 x14_1).f0].length) kv17 HM rfl Try.underlying24 info9 rfl (HM.CR 3 rfl).2.2 (by have h_ := LMc15.out; simp only [List.length_singleton]; omega) ?_; clear HM; intro v1419 w18 HM))
     go_roundg k1
     case measure => have := HK1.out; omega
     case rel => exact ⟨((x3_1 ++ [(rd_T76 l0_2 x14_1).f0])), (wrap64 (x14_1 + 1)), RS, H', ⟨by have := HK1.out; omega⟩, (MD HM).pick [0, 1]⟩
    ·have c9b0 : decide (x14_1 < (l0_2.length : Int)) = false := decide_eq_false c9
     clear c9
     (first | rw [c9b0] | (simp only [i64_w, i32_w]; rw [c9b0]) | skip)
     obtain rfl := Option.some.inj H
     go_wp2
     go_ret
     exact ⟨_, ER, (MD HM).pick [0]⟩
 ·subst c7
  obtain rfl := Option.some.inj H
  go_wp2
  go_ret
  exact ⟨_, ER, (MD HM).pick [1]⟩
/-- A state of type 101 at block g of W; what its slices lead to came in by w0. -/
def IsS101 (w0 W : World) (g : Nat) (f0 : Int) (f1 : Int) (f2 : List (S76)) (f3 : Int) (f4 : Int) (f5 : List (S76)) (f6 : List (S76)) (f7 : List Int) : Prop := ∃ A2 c2, ∃ A5 c5, ∃ A6 c6, ∃ A7 c7, W.heap[g]? = some (.cells #[.int .i64 f0, .int .i64 f1, .slice A2 f2.length c2, .int .i64 f3, .int .i64 f4, .slice A5 f5.length c5, .slice A6 f6.length c6, .slice A7 f7.length c7] 101 (0, 0)) ∧ w0.heap.size ≤ g ∧ Kd.C k76 w0 A2 f2.length f2 ∧ Kd.C k76 w0 A5 f5.length f5 ∧ Kd.C k76 w0 A6 f6.length f6 ∧ Kd.C (Kd.int .i64) w0 A7 f7.length f7
theorem IsS101.grown {w0 W : World} {g : Nat} {f0 : Int} {f1 : Int} {f2 : List (S76)} {f3 : Int} {f4 : Int} {f5 : List (S76)} {f6 : List (S76)} {f7 : List Int} {W1 : World} {row : Option Nat} (h : IsS101 w0 W g f0 f1 f2 f3 f4 f5 f6 f7) (hw : W.grownBy W1 row) (hne : some g ≠ row) : IsS101 w0 W1 g f0 f1 f2 f3 f4 f5 f6 f7 := by
 obtain ⟨A2, c2, A5, c5, A6, c6, A7, c7, hb, hg, hr2, hr5, hr6, hr7⟩ := h
 exact ⟨A2, c2, A5, c5, A6, c6, A7, c7, blk_grown hb hw hne, hg, hr2, hr5, hr6, hr7⟩
theorem IsS101.kept {w0 W : World} {g : Nat} {f0 : Int} {f1 : Int} {f2 : List (S76)} {f3 : Int} {f4 : Int} {f5 : List (S76)} {f6 : List (S76)} {f7 : List Int} {W1 : World} {S : Nat → Prop} (h : IsS101 w0 W g f0 f1 f2 f3 f4 f5 f6 f7) (hk : Kept W W1 S) (hne : ¬ S g) : IsS101 w0 W1 g f0 f1 f2 f3 f4 f5 f6 f7 := by
 obtain ⟨A2, c2, A5, c5, A6, c6, A7, c7, hb, hg, hr2, hr5, hr6, hr7⟩ := h
 exact ⟨A2, c2, A5, c5, A6, c6, A7, c7, blk_kept hb hk hne, hg, hr2, hr5, hr6, hr7⟩
theorem IsS101.below {w0 W : World} {g : Nat} {f0 : Int} {f1 : Int} {f2 : List (S76)} {f3 : Int} {f4 : Int} {f5 : List (S76)} {f6 : List (S76)} {f7 : List Int} {W1 : World} (h : IsS101 w0 W g f0 f1 f2 f3 f4 f5 f6 f7) (hw : Below W.heap.size W W1) : IsS101 w0 W1 g f0 f1 f2 f3 f4 f5 f6 f7 := h.grown (grown_of_below hw none) (by simp)
theorem IsS101.alloc {w0 W : World} {g : Nat} {f0 : Int} {f1 : Int} {f2 : List (S76)} {f3 : Int} {f4 : Int} {f5 : List (S76)} {f6 : List (S76)} {f7 : List Int} (h : IsS101 w0 W g f0 f1 f2 f3 f4 f5 f6 f7) (o : Obj) : IsS101 w0 (W.alloc o) g f0 f1 f2 f3 f4 f5 f6 f7 := h.below (below_alloc (Below.refl _ _) o)
theorem IsS101.drewN {w0 W : World} {g : Nat} {f0 : Int} {f1 : Int} {f2 : List (S76)} {f3 : Int} {f4 : Int} {f5 : List (S76)} {f6 : List (S76)} {f7 : List Int} (h : IsS101 w0 W g f0 f1 f2 f3 f4 f5 f6 f7) (m : Nat) : IsS101 w0 (W.drewN m) g f0 f1 f2 f3 f4 f5 f6 f7 := h
theorem IsS101.drew {w0 W : World} {g : Nat} {f0 : Int} {f1 : Int} {f2 : List (S76)} {f3 : Int} {f4 : Int} {f5 : List (S76)} {f6 : List (S76)} {f7 : List Int} (h : IsS101 w0 W g f0 f1 f2 f3 f4 f5 f6 f7) : IsS101 w0 W.drew g f0 f1 f2 f3 f4 f5 f6 f7 := h
theorem IsS101.at_ {w0 W : World} {g : Nat} {f0 : Int} {f1 : Int} {f2 : List (S76)} {f3 : Int} {f4 : Int} {f5 : List (S76)} {f6 : List (S76)} {f7 : List Int} {w' : World} {m : Nat} (hq : W.drewN m = w') (h : IsS101 w0 W g f0 f1 f2 f3 f4 f5 f6 f7) : IsS101 w0 w' g f0 f1 f2 f3 f4 f5 f6 f7 := by subst hq; exact IsS101.drewN h m
theorem IsS101.apart {w0 W : World} {g : Nat} {f0 : Int} {f1 : Int} {f2 : List (S76)} {f3 : Int} {f4 : Int} {f5 : List (S76)} {f6 : List (S76)} {f7 : List Int} {α : Type} {d : Kd α} {e : Nat} {base : Nat} {ok : Nat → Prop} {v : Value} {xs : List α} (h : IsS101 w0 W g f0 f1 f2 f3 f4 f5 f6 f7) (ho : d.R e W base ok v xs) (ht : ∀ q, q ∈ e :: d.E → q ≠ 101) : d.R e W base (fun k => ok k ∧ k ≠ g) v xs := by
 obtain ⟨A2, c2, A5, c5, A6, c6, A7, c7, hb, hg, hr2, hr5, hr6, hr7⟩ := h
 exact Kd.R_types ho hb ht
theorem IsS101.lt {w0 W : World} {g : Nat} {f0 : Int} {f1 : Int} {f2 : List (S76)} {f3 : Int} {f4 : Int} {f5 : List (S76)} {f6 : List (S76)} {f7 : List Int} (h : IsS101 w0 W g f0 f1 f2 f3 f4 f5 f6 f7) : g < W.heap.size := by
 obtain ⟨A2, c2, A5, c5, A6, c6, A7, c7, hb, hg, hr2, hr5, hr6, hr7⟩ := h
 exact blk_lt hb
def impl_cache_keys.l0 : Nat → List ByteArray → List (S76) → Int → Int → Int → Int → List (S76) → Int → Int → List (S76) → List (S76) → List Int → Option (List ByteArray × Int × Int × Int × Int)
 | 0, _, _, _, _, _, _, _, _, _, _, _, _ => none
 | k + 1, x3, x29, x30, x31, x1000, x1001, x1002, x1003, x1004, x1005, x1006, x1007 => if x31 < x30 then (if 0 ≤ x31 then (if x31 < (x29.length : Int) then (if x3.length < 8796093022208 then (impl_cache_keys.l0 k (x3 ++ [(rd_T76 x29 x31).f0]) x29 x30 (wrap64 (x31 + 1)) x1000 x1001 x1002 x1003 x1004 x1005 x1006 x1007) else (none)) else (none)) else (none)) else (some (x3, x1000, x1001, x1003, x1004))
def impl_cache_keys.f (k : Nat) (s0_0 : Int) (s0_1 : Int) (s0_2 : List (S76)) (s0_3 : Int) (s0_4 : Int) (s0_5 : List (S76)) (s0_6 : List (S76)) (s0_7 : List Int) : Option (List ByteArray × Int × Int × Int × Int) := if s0_3 = 0 then ((impl_RowKeys.f k s0_0 s0_1 s0_2).bind fun t1421 => (some (t1421, s0_0, s0_1, s0_3, s0_4))) else ((impl_copyItems.f s0_5).bind fun t1427 => (if t1427.length + s0_6.length < 3518437208883 then ((some (t1427 ++ s0_6 : List (S76))).bind fun y1430 => (impl_cache_keys.l0 k (([] : List ByteArray)) y1430 (y1430.length : Int) 0 s0_0 s0_1 s0_2 s0_3 s0_4 s0_5 s0_6 s0_7)) else (none)))
theorem impl_cache_keys.mono_l : ∀ k, (∀ y0 y1 y2 y3 y4 y5 y6 y7 y8 y9 y10 y11, LeO (impl_cache_keys.l0 k y0 y1 y2 y3 y4 y5 y6 y7 y8 y9 y10 y11) (impl_cache_keys.l0 (k + 1) y0 y1 y2 y3 y4 y5 y6 y7 y8 y9 y10 y11))
 | 0 => fun _ _ _ _ _ _ _ _ _ _ _ _ r h => by simp [impl_cache_keys.l0] at h
 | k + 1 => by
  have ih0 := impl_cache_keys.mono_l k
  ·intro y0 y1 y2 y3 y4 y5 y6 y7 y8 y9 y10 y11
   unfold impl_cache_keys.l0
   repeat' first | (with_reducible first | exact ih0 _ _ _ _ _ _ _ _ _ _ _ _ | exact impl_RowKeys.mono _ _ _ _ | exact LeO.refl _ | exact LeO.none _ | refine LeO.ite ?_ ?_ | refine LeO.bind ?_ (fun _ => ?_)) | exact LeO.none _ | refine LeO.ite ?_ ?_ | refine LeO.bind ?_ (fun _ => ?_)
theorem impl_cache_keys.mono : ∀ a0 a1 a2 a3 a4 a5 a6 a7 k, LeO (impl_cache_keys.f k a0 a1 a2 a3 a4 a5 a6 a7) (impl_cache_keys.f (k + 1) a0 a1 a2 a3 a4 a5 a6 a7) := by
 intro a0 a1 a2 a3 a4 a5 a6 a7 k
 have ih0 := impl_cache_keys.mono_l k
 unfold impl_cache_keys.f
 repeat' first | (with_reducible first | exact ih0 _ _ _ _ _ _ _ _ _ _ _ _ | exact impl_RowKeys.mono _ _ _ _ | exact LeO.refl _ | exact LeO.none _ | refine LeO.ite ?_ ?_ | refine LeO.bind ?_ (fun _ => ?_)) | exact LeO.none _ | refine LeO.ite ?_ ?_ | refine LeO.bind ?_ (fun _ => ?_)
def impl_cache_keys.T4 : Bool × List (List Nat × List Nat) := (true, [([], []), ([0], [0]), ([1], [1]), ([2], [2]), ([3], [3]), ([4], [4]), ([], []), ([6], [6]), ([7], [7]), ([8], [8]), ([9], [9]), ([5, 10, 5], [5, 10]), ([11], [11]), ([], [])])
def impl_cache_keys.B4 : List Nat := [0, 1, 3, 7, 15, 31, 0, 64, 192, 448, 960, 2047, 4095, 0]
theorem impl_cache_keys.tab4 : rtab .any (opsOf Try.f54 4) = impl_cache_keys.T4 := by kernel_rfl
theorem impl_cache_keys.bits4 : waitsOk impl_cache_keys.T4.2 impl_cache_keys.B4 = true := by kernel_rfl
set_option maxHeartbeats 8000000 in
set_option maxRecDepth 100000 in
theorem impl_cache_keys.calls (k : Nat) (g : Nat) (s0_0 : Int) (s0_1 : Int) (A0_2 : Option Addr) (c0_2 : Nat) (s0_2 : List (S76)) (s0_3 : Int) (s0_4 : Int) (A0_5 : Option Addr) (c0_5 : Nat) (s0_5 : List (S76)) (A0_6 : Option Addr) (c0_6 : Nat) (s0_6 : List (S76)) (A0_7 : Option Addr) (c0_7 : Nat) (s0_7 : List Int) (r1 : List ByteArray) (r2 : Int) (r3 : Int) (r4 : Int) (r5 : Int) (w0 w : World) (F : List SP)  (hM : Mem w0 F w [row k76 76 (.slice A0_2 s0_2.length c0_2) s0_2, row k76 76 (.slice A0_5 s0_5.length c0_5) s0_5, row k76 76 (.slice A0_6 s0_6.length c0_6) s0_6, row (Kd.int .i64) 3 (.slice A0_7 s0_7.length c0_7) s0_7, box 101 g [.int .i64 s0_0, .int .i64 s0_1, .slice A0_2 s0_2.length c0_2, .int .i64 s0_3, .int .i64 s0_4, .slice A0_5 s0_5.length c0_5, .slice A0_6 s0_6.length c0_6, .slice A0_7 s0_7.length c0_7]]) (h : impl_cache_keys.f k s0_0 s0_1 s0_2 s0_3 s0_4 s0_5 s0_6 s0_7 = some (r1, r2, r3, r4, r5)) :
  Calls Try.prog 54 #[.pointer (some ⟨g, 0, none⟩)] w fun e w' => ∃ v0_ : Value, e = .returned (v0_) ∧ Mem w0 F w' [rowR Kd.string 9 v0_ r1, box 101 g [.int .i64 r2, .int .i64 r3, .slice A0_2 s0_2.length c0_2, .int .i64 r4, .int .i64 r5, .slice A0_5 s0_5.length c0_5, .slice A0_6 s0_6.length c0_6, .slice A0_7 s0_7.length c0_7], row k76 76 (.slice A0_2 s0_2.length c0_2) s0_2, row k76 76 (.slice A0_5 s0_5.length c0_5) s0_5, row k76 76 (.slice A0_6 s0_6.length c0_6) s0_6, row (Kd.int .i64) 3 (.slice A0_7 s0_7.length c0_7) s0_7] := by
 have hu46 := Try.underlying46
 have hu76 := Try.underlying76
 have HM := hM
 clear hM
 have H := h
 clear h
 unfold impl_cache_keys.f at H
 go_enter Try.func54, Try.ntmps54
 obtain ⟨z2_0, z2_1, z2_2, z2_3, z2_4, z2_5, z2_6, z2_7, Z2_0, Z2_1, Z2_2, Z2_3, Z2_4, Z2_5, Z2_6, Z2_7⟩ := bk8 (HM.bx 4 rfl)
 go_upto_if 11 with (fail)
 replace H := IT H; rcases H with ⟨c3, H⟩ | ⟨c3, H⟩
 ·have c3b0 : (s0_3 == 0) = true := beq_iff_eq.mpr c3
  have c3b1 : (s0_3 != 0) = false := bne_eq_false_iff_eq.mpr c3
  clear c3
  (first | rw [c3b0] | (simp only [i64_w, i32_w]; rw [c3b0]) | skip)
  replace H := BN H; obtain ⟨t1421, A4, H⟩ := H
  simp only [Option.some.injEq, Prod.mk.injEq] at H
  obtain ⟨rfl, rfl, rfl, rfl, rfl⟩ := H
  go_wp2_with (first | ((with_reducible refine gC 35 rfl ?_); refine pC (some 16) rfl #[.agg #[.int .i64 s0_0, .int .i64 s0_1, .slice A0_2 s0_2.length c0_2]] rfl Try.func35 (impl_RowKeys.calls k s0_0 s0_1 _ _ s0_2 t1421 _ (HM.C 0 rfl).2.2 (HM.C 0 rfl).2.1 A4.out) ?_; rintro e w5 ⟨v1422, rfl, hR⟩; refine ⟨_, rfl, ?_⟩; replace HM := HM.call hR; clear hR))
  go_ret
  exact ⟨_, ER, (MD HM).pick [5, 4, 0, 1, 2, 3]⟩
 ·have c3b0 : (s0_3 == 0) = false := beq_eq_false_iff_ne.mpr c3
  have c3b1 : (s0_3 != 0) = true := bne_iff_ne.mpr c3
  (first | rw [c3b0] | (simp only [i64_w, i32_w]; rw [c3b0]) | skip)
  try go_wp2_with (first | ((with_reducible refine gN 17 rfl ?_); refine pL 17 Kd.string 9 ([] : List ByteArray) [] (Reps.none _ _) HM rfl ?_; clear HM; intro v1425 w6 HM))
  replace H := BN H; obtain ⟨t1427, A7, H⟩ := H
  replace H := GD H; obtain ⟨c8, H⟩ := H
  have LMc8 := Aside0.mk c8
  clear c8
  replace H := BLt H; obtain ⟨y1430, Ny1430, H⟩ := H
  replace Ny1430 := Aside0.mk Ny1430
  refine RGN 14 [0, 1, 2, 3, 4, 5, 6, 7, 8, 9, 10, 11, 12, 13] (fun a0 b a w' => ∃ (v1428 : Value) (v1431 : Value), a = putSel a0 b [(0, 18, .pointer (some ⟨g, 0, none⟩)), (1, 19, .pointer (some ⟨g, 0, none⟩)), (2, 20, .pointer (some ⟨g, 3, none⟩)), (3, 21, .pointer (some ⟨g, 5, none⟩)), (4, 22, .slice A0_5 s0_5.length c0_5), (5, 23, v1428), (6, 24, .pointer (some ⟨g, 0, none⟩)), (7, 25, .pointer (some ⟨g, 0, none⟩)), (8, 26, .pointer (some ⟨g, 3, none⟩)), (9, 27, .pointer (some ⟨g, 6, none⟩)), (10, 28, .slice A0_6 s0_6.length c0_6), (11, 29, v1431), (12, 30, .int .i64 (y1430.length : Int)), (13, 31, .int .i64 0)] ∧ Mem w0 F w' [row k76 76 (.slice A0_2 s0_2.length c0_2) s0_2, row k76 76 (.slice A0_5 s0_5.length c0_5) s0_5, row k76 76 (.slice A0_6 s0_6.length c0_6) s0_6, row (Kd.int .i64) 3 (.slice A0_7 s0_7.length c0_7) s0_7, box 101 g [.int .i64 s0_0, .int .i64 s0_1, .slice A0_2 s0_2.length c0_2, .int .i64 s0_3, .int .i64 s0_4, .slice A0_5 s0_5.length c0_5, .slice A0_6 s0_6.length c0_6, .slice A0_7 s0_7.length c0_7], rowR Kd.string 9 v1425 (([] : List ByteArray)), sel (b 11) (rowR k76 76 v1431 y1430) (sel (b 5) (rowR k76 76 v1428 t1427) (emp))]) impl_cache_keys.tab4 impl_cache_keys.bits4 ?_ ?_ ?_
  ·exact ⟨.bool false, .bool false, PS0' rfl _, (HM.drew.ems 1).pick [0, 1, 2, 3, 4, 5, 6]⟩
  ·clear HM
   refine steps_cons ?_ ?_
   ·rintro b a w ⟨v1428, v1431, ha, HM⟩ hb hon hoff
    refine ⟨_, rfl, fun K hK => ?_⟩
    replace ha := Aside0.mk ha
    have e0 := PG ha 0
    exact VL (.pointer (some ⟨g, 0, none⟩)) (hK.out _ _ ⟨v1428, v1431, PUT ha 0 hb, HM⟩)
   refine steps_cons ?_ ?_
   ·rintro b a w ⟨v1428, v1431, ha, HM⟩ hb hon hoff
    refine ⟨_, rfl, fun K hK => ?_⟩
    replace ha := Aside0.mk ha
    have e18 := PE ha 0 hon
    exact VL (.pointer (some ⟨g, 0, none⟩)) (hK.out _ _ ⟨v1428, v1431, PUT ha 1 hb, HM⟩)
   refine steps_cons ?_ ?_
   ·rintro b a w ⟨v1428, v1431, ha, HM⟩ hb hon hoff
    refine ⟨_, rfl, fun K hK => ?_⟩
    replace ha := Aside0.mk ha
    have e19 := PE ha 1 hon
    exact VL (.pointer (some ⟨g, 3, none⟩)) (hK.out _ _ ⟨v1428, v1431, PUT ha 2 hb, HM⟩)
   refine steps_cons ?_ ?_
   ·rintro b a w ⟨v1428, v1431, ha, HM⟩ hb hon hoff
    refine ⟨_, rfl, fun K hK => ?_⟩
    replace ha := Aside0.mk ha
    have e20 := PE ha 2 hon
    exact VL (.pointer (some ⟨g, 5, none⟩)) (hK.out _ _ ⟨v1428, v1431, PUT ha 3 hb, HM⟩)
   refine steps_cons ?_ ?_
   ·rintro b a w ⟨v1428, v1431, ha, HM⟩ hb hon hoff
    refine ⟨_, rfl, fun K hK => ?_⟩
    replace ha := Aside0.mk ha
    obtain ⟨z14_0, z14_1, z14_2, z14_3, z14_4, z14_5, z14_6, z14_7, Z14_0, Z14_1, Z14_2, Z14_3, Z14_4, Z14_5, Z14_6, Z14_7⟩ := bk8 (HM.bx 4 rfl)
    have e21 := PE ha 3 hon
    exact VL (.slice A0_5 s0_5.length c0_5) (hK.out _ _ ⟨v1428, v1431, PUT ha 4 hb, HM⟩)
   refine steps_cons ?_ ?_
   ·rintro b a w ⟨v1428, v1431, ha, HM⟩ hb hon hoff
    refine ⟨_, rfl, fun K hK => ?_⟩
    replace ha := Aside0.mk ha
    have e22 := PE ha 4 hon
    refine ST (eC (some 23) rfl #[.slice A0_5 s0_5.length c0_5] rfl Try.func78 (impl_copyItems.calls _ _ s0_5 t1427 _ (HM.C 1 rfl).2.2 (HM.C 1 rfl).2.1 A7.out) ?_ (hargs := by (simp only [List.map_toArray, List.map_cons, List.map_nil, evc, eval_of e22]) <;> rfl))
    rintro e w15 ⟨v1428, rfl, hR⟩
    refine ⟨_, rfl, ?_⟩
    replace HM := HM.call hR
    clear hR
    exact hK.out _ _ ⟨v1428, v1431, PUT ha 5 hb, (HM.iF 7 rfl (hoff 11 (by kernel_rfl))).pick [0, 1, 2, 3, 4, 5, 7]⟩
   refine steps_cons ?_ ?_
   ·rintro b a w ⟨v1428, v1431, ha, HM⟩ hb hon hoff
    refine ⟨_, rfl, fun K hK => ?_⟩
    replace ha := Aside0.mk ha
    have e0 := PG ha 0
    exact VL (.pointer (some ⟨g, 0, none⟩)) (hK.out _ _ ⟨v1428, v1431, PUT ha 6 hb, HM⟩)
   refine steps_cons ?_ ?_
   ·rintro b a w ⟨v1428, v1431, ha, HM⟩ hb hon hoff
    refine ⟨_, rfl, fun K hK => ?_⟩
    replace ha := Aside0.mk ha
    have e24 := PE ha 6 hon
    exact VL (.pointer (some ⟨g, 0, none⟩)) (hK.out _ _ ⟨v1428, v1431, PUT ha 7 hb, HM⟩)
   refine steps_cons ?_ ?_
   ·rintro b a w ⟨v1428, v1431, ha, HM⟩ hb hon hoff
    refine ⟨_, rfl, fun K hK => ?_⟩
    replace ha := Aside0.mk ha
    have e25 := PE ha 7 hon
    exact VL (.pointer (some ⟨g, 3, none⟩)) (hK.out _ _ ⟨v1428, v1431, PUT ha 8 hb, HM⟩)
   refine steps_cons ?_ ?_
   ·rintro b a w ⟨v1428, v1431, ha, HM⟩ hb hon hoff
    refine ⟨_, rfl, fun K hK => ?_⟩
    replace ha := Aside0.mk ha
    have e26 := PE ha 8 hon
    exact VL (.pointer (some ⟨g, 6, none⟩)) (hK.out _ _ ⟨v1428, v1431, PUT ha 9 hb, HM⟩)
   refine steps_cons ?_ ?_
   ·rintro b a w ⟨v1428, v1431, ha, HM⟩ hb hon hoff
    refine ⟨_, rfl, fun K hK => ?_⟩
    replace ha := Aside0.mk ha
    obtain ⟨z16_0, z16_1, z16_2, z16_3, z16_4, z16_5, z16_6, z16_7, Z16_0, Z16_1, Z16_2, Z16_3, Z16_4, Z16_5, Z16_6, Z16_7⟩ := bk8 (HM.bx 4 rfl)
    have e27 := PE ha 9 hon
    exact VL (.slice A0_6 s0_6.length c0_6) (hK.out _ _ ⟨v1428, v1431, PUT ha 10 hb, HM⟩)
   refine steps_cons ?_ ?_
   ·rintro b a w ⟨v1428, v1431, ha, HM⟩ hb hon hoff
    refine ⟨_, rfl, fun K hK => ?_⟩
    replace ha := Aside0.mk ha
    replace HM := (HM.sF 6 rfl hb).sT 6 rfl (hon 5 (by kernel_rfl))
    have e23 := PE ha 5 hon
    have e28 := PE ha 10 hon
    refine ST (eA 6 (.tmp 23) (.tmp 28) 44 76 k76 v1428 t1427 s0_6 A0_6 s0_6.length c0_6 HM rfl Try.underlying44 info76 rfl (HM.C 2 rfl).2.2 (by have h_ := LMc8.out; omega) ?_ (ops := #[]) (hw := by rfl) (hs := (eval_of e23)) (hx := (eval_of e28)))
    clear HM
    intro v1431 w17 HM
    replace HM := HM.nm 6 rfl Ny1430.out
    exact hK.out _ _ ⟨v1428, v1431, PUT ha 11 hb, (HM).pick [0, 1, 2, 3, 4, 5, 6]⟩
   refine steps_cons ?_ ?_
   ·rintro b a w ⟨v1428, v1431, ha, HM⟩ hb hon hoff
    refine ⟨_, rfl, fun K hK => ?_⟩
    replace ha := Aside0.mk ha
    have HZ := HM
    replace HM := HM.sT 6 rfl (hon 11 (by kernel_rfl))
    obtain ⟨Xo18, ko18, eo18⟩ := HM.rdR 6 rfl
    subst eo18
    have e29 := PE ha 11 hon
    exact VL (.int .i64 (y1430.length : Int)) (hK.out _ _ ⟨v1428, .slice Xo18 y1430.length ko18, PUT ha 12 hb, HZ⟩)
   refine steps_cons ?_ ?_
   ·rintro b a w ⟨v1428, v1431, ha, HM⟩ hb hon hoff
    refine ⟨_, rfl, fun K hK => ?_⟩
    replace ha := Aside0.mk ha
    exact VL (.int .i64 0) (hK.out _ _ ⟨v1428, v1431, PUT ha 13 hb, HM⟩)
   exact steps_nil
  rintro _ w19 ⟨v1428, v1431, rfl, HM⟩
  replace HM := HM.sT 6 rfl rfl
  simp only [putSel, if_true, Act.put, List.setIfInBounds_toArray, List.set_cons_zero, List.set_cons_succ, gt_iff_lt, ge_iff_le]
  have H' := Aside0.mk H
  clear H
  go_wp2
  go_loopg [3, 31] k (fun kq v3 v31 w' => ∃ (x3_1 : List ByteArray) (x31_1 : Int), v31 = .int .i64 x31_1 ∧ Aside0 (impl_cache_keys.l0 kq x3_1 y1430 (y1430.length : Int) x31_1 s0_0 s0_1 s0_2 s0_3 s0_4 s0_5 s0_6 s0_7 = some (r1, r2, r3, r4, r5)) ∧ Aside0 (kq ≤ k) ∧ Mem w0 F w' [rowR Kd.string 9 v3 x3_1, rowR k76 76 v1431 y1430, box 101 g [.int .i64 s0_0, .int .i64 s0_1, .slice A0_2 s0_2.length c0_2, .int .i64 s0_3, .int .i64 s0_4, .slice A0_5 s0_5.length c0_5, .slice A0_6 s0_6.length c0_6, .slice A0_7 s0_7.length c0_7], row k76 76 (.slice A0_2 s0_2.length c0_2) s0_2, row k76 76 (.slice A0_5 s0_5.length c0_5) s0_5, row k76 76 (.slice A0_6 s0_6.length c0_6) s0_6, row (Kd.int .i64) 3 (.slice A0_7 s0_7.length c0_7) s0_7])
  case atStart => exact ⟨((([] : List ByteArray))), (0), RS, H', ⟨Nat.le_refl _⟩, (MD HM).pick [5, 6, 4, 0, 1, 2, 3]⟩
  case round =>
   clear H' HM
   obtain ⟨x3_1, x31_1, rfl, HA, HK1, HM⟩ := hrel
   cases gk with
   | zero => exact absurd HA.out (by simp [impl_cache_keys.l0])
   | succ k1 =>
    have H := HA.out
    clear HA
    simp only [impl_cache_keys.l0] at H
    go_upto_if 32 with (fail)
    replace H := IT H; rcases H with ⟨c20, H⟩ | ⟨c20, H⟩
    ·have c20b0 : decide (x31_1 < (y1430.length : Int)) = true := decide_eq_true c20
     clear c20
     (first | rw [c20b0] | (simp only [i64_w, i32_w]; rw [c20b0]) | skip)
     replace H := GD H; obtain ⟨c21, H⟩ := H
     have c21b0 : decide (0 ≤ x31_1) = true := decide_eq_true c21
     clear c21
     replace H := GD H; obtain ⟨c22, H⟩ := H
     have c22b0 : decide (x31_1 < (y1430.length : Int)) = true := decide_eq_true c22
     clear c22
     replace H := GD H; obtain ⟨c27, H⟩ := H
     have LMc27 := Aside0.mk c27
     clear c27
     have H' := Aside0.mk H
     clear H
     obtain ⟨Xo23, ko23, eo23⟩ := HM.rdR 1 rfl
     subst eo23
     have p1433 : 0 ≤ (x31_1 : Int) := of_decide_eq_true AS
     have q1433 : (x31_1 : Int) < (y1430.length : Int) := of_decide_eq_true AS
     obtain ⟨ad1433, e1433, hx1433_0, hx1433_1, hx1433_2⟩ := at_T76 (HM.CR 1 rfl).2.2 x31_1 p1433 q1433
     cases e1433
     replace p1433 := eq_true p1433
     replace q1433 := eq_true q1433
     go_wp2_with (first | ((with_reducible refine gN 5 rfl ?_); refine pB 5 76 [.string (⟨#[]⟩ : ByteArray), .string (⟨#[]⟩ : ByteArray), .int .i64 0] HM rfl ?_; clear HM; intro gb1434 w24 HM) | ((with_reducible refine gS 5 rfl ?_); refine pS 7 5 0 [.string ((rd_T76 y1430 x31_1).f0), .string ((rd_T76 y1430 x31_1).f1), .int .i64 ((rd_T76 y1430 x31_1).f2)] HM rfl rfl ?_; clear HM; intro w25 HM; obtain ⟨z26_0, z26_1, z26_2, Z26_0, Z26_1, Z26_2⟩ := bk3 (HM.bx 7 rfl)) | ((with_reducible refine gN 38 rfl ?_); refine pL 38 Kd.string 9 [(rd_T76 y1430 x31_1).f0] [.string ((rd_T76 y1430 x31_1).f0)] (Reps.one (show Kd.M Kd.string _ _ _ ((rd_T76 y1430 x31_1).f0) [.string ((rd_T76 y1430 x31_1).f0)] from rfl) (Reps.none _ _)) HM rfl ?_; clear HM; intro v29 w28 HM; obtain ⟨Xv29, kv29, ev29⟩ := HM.rdR 8 rfl; subst ev29) | ((with_reducible refine gate_builtin (b := .append) (xs := #[.tmp 35, .tmp 38]) rfl ?_); refine pA 0 (.tmp 35) (.tmp 38) 24 9 Kd.string u3 x3_1 [(rd_T76 y1430 x31_1).f0] Xv29 ([(rd_T76 y1430 x31_1).f0].length) kv29 HM rfl Try.underlying24 info9 rfl (HM.CR 8 rfl).2.2 (by have h_ := LMc27.out; simp only [List.length_singleton]; omega) ?_; clear HM; intro v1436 w30 HM))
     go_roundg k1
     case measure => have := HK1.out; omega
     case rel => exact ⟨((x3_1 ++ [(rd_T76 y1430 x31_1).f0])), (wrap64 (x31_1 + 1)), RS, H', ⟨by have := HK1.out; omega⟩, (MD HM).pick [0, 1, 2, 3, 4, 5, 6]⟩
    ·have c20b0 : decide (x31_1 < (y1430.length : Int)) = false := decide_eq_false c20
     clear c20
     (first | rw [c20b0] | (simp only [i64_w, i32_w]; rw [c20b0]) | skip)
     simp only [Option.some.injEq, Prod.mk.injEq] at H
     obtain ⟨rfl, rfl, rfl, rfl, rfl⟩ := H
     go_wp2
     go_ret
     exact ⟨_, ER, (MD HM).pick [0, 2, 3, 4, 5, 6]⟩
def impl_Holds.j0 : Nat → List ByteArray → Bool → Int → Int → Int → Option (List ByteArray)
 | 0, _, _, _, _, _ => none
 | k + 1, x1, x15, x1439000, x1439001, x1439002 => if x15 = true then (some ([] : List ByteArray)) else ((impl_asked.f k x1439000 x1439001 x1439002 x1).bind fun bt1441 => ((impl_cache_keys.f k bt1441.1 bt1441.2.1 bt1441.2.2.1 bt1441.2.2.2.1 bt1441.2.2.2.2.1 bt1441.2.2.2.2.2.1 bt1441.2.2.2.2.2.2.1 bt1441.2.2.2.2.2.2.2.1).bind fun bt1462 => (some bt1462.1)))
def impl_Holds.f (k : Nat) (a0_0 : Int) (a0_1 : Int) (a0_2 : Int) (l1 : List ByteArray) : Option (List ByteArray) := (impl_SetupOk.f k a0_0 a0_1 a0_2).bind fun t1439 => (if t1439 = true then ((impl_AsksOk.f k l1).bind fun t1440 => (impl_Holds.j0 k l1 (!t1440) a0_0 a0_1 a0_2)) else (impl_Holds.j0 k l1 true a0_0 a0_1 a0_2))
theorem impl_Holds.mono_l : ∀ k, (∀ y0 y1 y2 y3 y4, LeO (impl_Holds.j0 k y0 y1 y2 y3 y4) (impl_Holds.j0 (k + 1) y0 y1 y2 y3 y4))
 | 0 => fun _ _ _ _ _ r h => by simp [impl_Holds.j0] at h
 | k + 1 => by
  have ih0 := impl_Holds.mono_l k
  ·intro y0 y1 y2 y3 y4
   unfold impl_Holds.j0
   repeat' first | (with_reducible first | exact ih0 _ _ _ _ _ | exact impl_AsksOk.mono _ _ | exact impl_SetupOk.mono _ _ _ _ | exact impl_asked.mono _ _ _ _ _ | exact impl_cache_keys.mono _ _ _ _ _ _ _ _ _ | exact LeO.refl _ | exact LeO.none _ | refine LeO.ite ?_ ?_ | refine LeO.bind ?_ (fun _ => ?_)) | exact LeO.none _ | refine LeO.ite ?_ ?_ | refine LeO.bind ?_ (fun _ => ?_)
theorem impl_Holds.mono : ∀ a0 a1 a2 a3 k, LeO (impl_Holds.f k a0 a1 a2 a3) (impl_Holds.f (k + 1) a0 a1 a2 a3) := by
 intro a0 a1 a2 a3 k
 have ih0 := impl_Holds.mono_l k
 unfold impl_Holds.f
 repeat' first | (with_reducible first | exact ih0 _ _ _ _ _ | exact impl_AsksOk.mono _ _ | exact impl_SetupOk.mono _ _ _ _ | exact impl_asked.mono _ _ _ _ _ | exact impl_cache_keys.mono _ _ _ _ _ _ _ _ _ | exact LeO.refl _ | exact LeO.none _ | refine LeO.ite ?_ ?_ | refine LeO.bind ?_ (fun _ => ?_)) | exact LeO.none _ | refine LeO.ite ?_ ?_ | refine LeO.bind ?_ (fun _ => ?_)
set_option maxHeartbeats 8000000 in
set_option maxRecDepth 100000 in
theorem impl_Holds.calls (k : Nat) (a0_0 : Int) (a0_1 : Int) (a0_2 : Int) (A1 : Option Addr) (c1 : Nat) (l1 : List ByteArray) (r : List ByteArray) (w : World) (hr1 : Kd.C Kd.string w A1 l1.length l1) (hc1 : l1.length ≤ c1) (h : impl_Holds.f k a0_0 a0_1 a0_2 l1 = some r) :
  Calls Try.prog 25 #[.agg #[.int .i64 a0_0, .int .i64 a0_1, .int .i64 a0_2], .slice A1 l1.length c1] w fun e w' => ∃ v0_ : Value, e = .returned (v0_) ∧ Mem w [] w' [rowR Kd.string 9 v0_ r] := by
 have hu28 := Try.underlying28
 have HR1 := Aside0.mk hr1
 have HC1 := Aside0.mk hc1
 clear hr1 hc1
 have HM := Mem.nil w
 have H := h
 clear h
 unfold impl_Holds.f at H
 go_enter Try.func25, Try.ntmps25
 have HC4 := Aside0.mk H
 clear H
 go_upto_region 1 with (first | ((with_reducible refine gN 2 rfl ?_); refine pB 2 28 [.int .i64 a0_0, .int .i64 a0_1, .int .i64 a0_2] HM rfl ?_; clear HM; intro gb1438 w3 HM))
 go_cut [15] (fun v15 wc => ∃ (kq : Nat) (x15_3 : Bool), v15 = .bool x15_3 ∧ Aside0 (impl_Holds.j0 kq l1 x15_3 a0_0 a0_1 a0_2 = some r) ∧ Aside0 (kq ≤ k) ∧ Mem w [] wc [box 28 gb1438 [.int .i64 a0_0, .int .i64 a0_1, .int .i64 a0_2]])
 case first =>
  have H := HC4.out
  clear HC4
  replace H := BN H; obtain ⟨t1439, A6, H⟩ := H
  replace H := IB H
  rcases H with ⟨c8, H⟩ | ⟨c8, H⟩
  ·subst c8
   replace H := BN H; obtain ⟨t1440, A9, H⟩ := H
   have H' := Aside0.mk H
   clear H
   obtain ⟨z5_0, z5_1, z5_2, Z5_0, Z5_1, Z5_2⟩ := bk3 (HM.bx 0 rfl)
   go_wp2_with (first | ((with_reducible refine gC 39 rfl ?_); refine pC (some 9) rfl #[.agg #[.int .i64 a0_0, .int .i64 a0_1, .int .i64 a0_2]] rfl Try.func39 (impl_SetupOk.calls k a0_0 a0_1 a0_2 true _ A6.out) ?_; rintro e w7 ⟨rfl, hR⟩; refine ⟨_, rfl, ?_⟩; replace HM := HM.call hR; clear hR) | ((with_reducible refine gC 42 rfl ?_); refine pC (some 13) rfl #[.slice A1 l1.length c1] rfl Try.func42 (impl_AsksOk.calls k _ _ l1 t1440 _ (HM.came HR1.out) HC1.out A9.out) ?_; rintro e w10 ⟨rfl, hR⟩; refine ⟨_, rfl, ?_⟩; replace HM := HM.call hR; clear hR))
   go_meet
   case rel => exact ⟨_, (!t1440), RS, H', ⟨by first | omega | exact Nat.le_refl _⟩, (MD HM).pick [0]⟩
  ·subst c8
   have H' := Aside0.mk H
   clear H
   obtain ⟨z5_0, z5_1, z5_2, Z5_0, Z5_1, Z5_2⟩ := bk3 (HM.bx 0 rfl)
   go_wp2_with (first | ((with_reducible refine gC 39 rfl ?_); refine pC (some 9) rfl #[.agg #[.int .i64 a0_0, .int .i64 a0_1, .int .i64 a0_2]] rfl Try.func39 (impl_SetupOk.calls k a0_0 a0_1 a0_2 false _ A6.out) ?_; rintro e w7 ⟨rfl, hR⟩; refine ⟨_, rfl, ?_⟩; replace HM := HM.call hR; clear hR))
   go_meet
   case rel => exact ⟨_, (true), RS, H', ⟨by first | omega | exact Nat.le_refl _⟩, (MD HM).pick [0]⟩
 case rest =>
  clear HC4 HM
  obtain ⟨kq, x15_3, rfl, HA, HJ3, HM⟩ := hcut
  cases kq with
  | zero => exact absurd HA.out (by simp [impl_Holds.j0])
  | succ kj3 =>
   have H := HA.out
   clear HA
   simp only [impl_Holds.j0] at H
   go_upto_if 15 with (fail)
   replace H := IB H
   rcases H with ⟨c11, H⟩ | ⟨c11, H⟩
   ·subst c11
    obtain rfl := Option.some.inj H
    replace HM := HM.nl Kd.string 9
    go_wp2
    go_ret
    exact ⟨_, ER, (MD HM).pick [1]⟩
   ·subst c11
    replace H := BN H; obtain ⟨⟨t1441, t1442, t1443, t1446, t1447, t1448, t1451, t1454, t1457, t1460⟩, A13, H⟩ := H
    replace H := BN H; obtain ⟨⟨t1462, t1465, t1466, t1467, t1468⟩, A15, H⟩ := H
    obtain rfl := Option.some.inj H
    obtain ⟨z12_0, z12_1, z12_2, Z12_0, Z12_1, Z12_2⟩ := bk3 (HM.bx 0 rfl)
    go_wp2_with (first | ((with_reducible refine gC 50 rfl ?_); refine pC (some 19) rfl #[.agg #[.int .i64 a0_0, .int .i64 a0_1, .int .i64 a0_2], .slice A1 l1.length c1] rfl Try.func50 (impl_asked.calls kj3 a0_0 a0_1 a0_2 _ _ l1 t1441 t1442 t1443 t1446 t1447 t1448 t1451 t1454 t1457 t1460 _ (HM.came HR1.out) HC1.out A13.out) ?_; rintro e w14 ⟨v1444, v1449, v1452, v1455, v1458, gb1461, rfl, hR⟩; refine ⟨_, rfl, ?_⟩; replace HM := HM.call hR; clear hR; obtain ⟨Xo17, ko17, eo17⟩ := HM.rdR 1 rfl; subst eo17; replace HM := HM.toQ 1 rfl; obtain ⟨Xo18, ko18, eo18⟩ := HM.rdR 2 rfl; subst eo18; replace HM := HM.toQ 2 rfl; obtain ⟨Xo19, ko19, eo19⟩ := HM.rdR 3 rfl; subst eo19; replace HM := HM.toQ 3 rfl; obtain ⟨Xo20, ko20, eo20⟩ := HM.rdR 4 rfl; subst eo20; replace HM := HM.toQ 4 rfl) | ((with_reducible refine gC 54 rfl ?_); refine pC (some 24) rfl #[.pointer (some ⟨gb1461, 0, none⟩)] rfl Try.func54 (impl_cache_keys.calls kj3 gb1461 t1441 t1442 Xo17 ko17 t1443 t1446 t1447 Xo18 ko18 t1448 Xo19 ko19 t1451 Xo20 ko20 t1454 t1462 t1465 t1466 t1467 t1468 _ _ _ (HM.focus [0, 5] [1, 2, 3, 4, 6]) A15.out) ?_; rintro e w16 ⟨v1463, rfl, hR⟩; refine ⟨_, rfl, ?_⟩; replace HM := nzM hR.unfocus; clear hR))
    go_ret
    exact ⟨_, ER, (MD HM).pick [2]⟩
def laws_heldStringS.l0 : Nat → List ByteArray → Int → Int → Option (Int)
 | 0, _, _, _ => none
 | k + 1, x0, x1, x5 => if x5 < (x0.length : Int) then (if 0 ≤ x5 then ((laws_markText.f k x1).bind fun t1471 => (if (rdOf ByteArray.empty x0 x5).toList = t1471.toList then (laws_heldStringS.l0 k x0 (wrap64 (x1 + 1)) (wrap64 (x5 + 1))) else (none))) else (none)) else (some x1)
def laws_heldStringS.f (k : Nat) (l0 : List ByteArray) (a1 : Int) : Option (Int) := laws_heldStringS.l0 k l0 a1 0
theorem laws_heldStringS.mono_l : ∀ k, (∀ y0 y1 y2, LeO (laws_heldStringS.l0 k y0 y1 y2) (laws_heldStringS.l0 (k + 1) y0 y1 y2))
 | 0 => fun _ _ _ r h => by simp [laws_heldStringS.l0] at h
 | k + 1 => by
  have ih0 := laws_heldStringS.mono_l k
  ·intro y0 y1 y2
   unfold laws_heldStringS.l0
   repeat' first | (with_reducible first | exact ih0 _ _ _ | exact laws_markText.mono _ _ | exact LeO.refl _ | exact LeO.none _ | refine LeO.ite ?_ ?_ | refine LeO.bind ?_ (fun _ => ?_)) | exact LeO.none _ | refine LeO.ite ?_ ?_ | refine LeO.bind ?_ (fun _ => ?_)
theorem laws_heldStringS.mono : ∀ a0 a1 k, LeO (laws_heldStringS.f k a0 a1) (laws_heldStringS.f (k + 1) a0 a1) := by
 intro a0 a1 k
 have ih0 := laws_heldStringS.mono_l k
 unfold laws_heldStringS.f
 repeat' first | (with_reducible first | exact ih0 _ _ _ | exact laws_markText.mono _ _ | exact LeO.refl _ | exact LeO.none _ | refine LeO.ite ?_ ?_ | refine LeO.bind ?_ (fun _ => ?_)) | exact LeO.none _ | refine LeO.ite ?_ ?_ | refine LeO.bind ?_ (fun _ => ?_)
def laws_heldStringS.T4 : Bool × List (List Nat × List Nat) := (true, [([], []), ([], []), ([0, 1], [0, 1]), ([2], [2]), ([], []), ([4], [4]), ([3, 5], [3, 5])])
def laws_heldStringS.B4 : List Nat := [0, 0, 3, 7, 0, 16, 63]
theorem laws_heldStringS.tab4 : rtab .any (opsOf Try.f26 4) = laws_heldStringS.T4 := by kernel_rfl
theorem laws_heldStringS.bits4 : waitsOk laws_heldStringS.T4.2 laws_heldStringS.B4 = true := by kernel_rfl
set_option maxHeartbeats 8000000 in
set_option maxRecDepth 100000 in
theorem laws_heldStringS.calls (k : Nat) (A0 : Option Addr) (c0 : Nat) (l0 : List ByteArray) (a1 : Int) (r : Int) (w : World) (hr0 : Kd.C Kd.string w A0 l0.length l0) (hc0 : l0.length ≤ c0) (h : laws_heldStringS.f k l0 a1 = some r) :
  Calls Try.prog 26 #[.slice A0 l0.length c0, .int .i64 a1] w fun e w' => e = .returned (.int .i64 r) ∧ Mem w [] w' [] := by
 have HR0 := Aside0.mk hr0
 have HC0 := Aside0.mk hc0
 clear hr0 hc0
 have HM := Mem.nil w
 have H := h
 clear h
 unfold laws_heldStringS.f at H
 go_enter Try.func26, Try.ntmps26
 have H' := Aside0.mk H
 clear H
 go_wp2
 go_loopg [1, 5] k (fun kq v1 v5 w' => ∃ (x1_1 : Int) (x5_1 : Int), v1 = .int .i64 x1_1 ∧ v5 = .int .i64 x5_1 ∧ Aside0 (laws_heldStringS.l0 kq l0 x1_1 x5_1 = some r) ∧ Aside0 (kq ≤ k) ∧ Mem w [] w' [])
 case atStart => exact ⟨(a1), (0), RS, RS, H', ⟨Nat.le_refl _⟩, (MD HM).pick []⟩
 case round =>
  clear H' HM
  obtain ⟨x1_1, x5_1, rfl, rfl, HA, HK1, HM⟩ := hrel
  cases gk with
  | zero => exact absurd HA.out (by simp [laws_heldStringS.l0])
  | succ k1 =>
   have H := HA.out
   clear HA
   simp only [laws_heldStringS.l0] at H
   go_upto_if 9 with (fail)
   replace H := IT H; rcases H with ⟨c3, H⟩ | ⟨c3, H⟩
   ·have c3b0 : decide (x5_1 < (l0.length : Int)) = true := decide_eq_true c3
    clear c3
    (first | rw [c3b0] | (simp only [i64_w, i32_w]; rw [c3b0]) | skip)
    try go_wp2
    replace H := GD H; obtain ⟨c4, H⟩ := H
    have c4b0 : decide (0 ≤ x5_1) = true := decide_eq_true c4
    clear c4
    replace H := BN H; obtain ⟨t1471, A5, H⟩ := H
    have p1470 : 0 ≤ (x5_1 : Int) := of_decide_eq_true AS
    have q1470 : (x5_1 : Int) < (l0.length : Int) := of_decide_eq_true AS
    obtain ⟨ad1470, e1470, hx1470_0⟩ := Kd.at_string (HM.came HR0.out) x5_1 p1470 q1470
    cases e1470
    replace p1470 := eq_true p1470
    replace q1470 := eq_true q1470
    refine RGN 7 [0, 1, 2, 3, 4, 5, 6] (fun a0 b a w' => a = putSel a0 b [(0, 12, .slice (some ad1470) l0.length c0), (1, 13, .int .i64 x5_1), (2, 14, .pointer (some (ad1470.add (x5_1).toNat))), (3, 15, .string (rdOf ByteArray.empty l0 x5_1)), (4, 16, .int .i64 x1_1), (5, 17, .string t1471), (6, 18, .bool ((rdOf ByteArray.empty l0 x5_1).toList != t1471.toList))] ∧ Mem w [] w' []) laws_heldStringS.tab4 laws_heldStringS.bits4 ?_ ?_ ?_
    ·exact ⟨PS0' rfl _, (HM.drew).pick []⟩
    ·clear HM
     refine SY ?_ ?_
     ·intro b a w ha HM hb hon hoff K hK
      have e0 := PG ha 0
      exact VL (.slice (some ad1470) l0.length c0) (hK.out _ _ ⟨PUT ha 0 hb, HM⟩)
     refine SY ?_ ?_
     ·intro b a w ha HM hb hon hoff K hK
      have e5 := PG ha 5
      exact VL (.int .i64 x5_1) (hK.out _ _ ⟨PUT ha 1 hb, HM⟩)
     refine SY ?_ ?_
     ·intro b a w ha HM hb hon hoff K hK
      have p1470 : 0 ≤ (x5_1 : Int) := of_decide_eq_true AS
      have q1470 : (x5_1 : Int) < (l0.length : Int) := of_decide_eq_true AS
      obtain ⟨ad1470, e1470, hx1470_0⟩ := Kd.at_string (HM.came HR0.out) x5_1 p1470 q1470
      obtain rfl := Option.some.inj e1470
      replace p1470 := eq_true p1470
      replace q1470 := eq_true q1470
      have e12 := PE ha 0 hon
      have e13 := PE ha 1 hon
      exact VL (.pointer (some (ad1470.add (x5_1).toNat))) (hK.out _ _ ⟨PUT ha 2 hb, HM⟩)
     refine SY ?_ ?_
     ·intro b a w ha HM hb hon hoff K hK
      have p1470 : 0 ≤ (x5_1 : Int) := of_decide_eq_true AS
      have q1470 : (x5_1 : Int) < (l0.length : Int) := of_decide_eq_true AS
      obtain ⟨ad1470, e1470, hx1470_0⟩ := Kd.at_string (HM.came HR0.out) x5_1 p1470 q1470
      obtain rfl := Option.some.inj e1470
      replace p1470 := eq_true p1470
      replace q1470 := eq_true q1470
      have e14 := PE ha 2 hon
      exact VL (.string (rdOf ByteArray.empty l0 x5_1)) (hK.out _ _ ⟨PUT ha 3 hb, HM⟩)
     refine SY ?_ ?_
     ·intro b a w ha HM hb hon hoff K hK
      have e1 := PG ha 1
      exact VL (.int .i64 x1_1) (hK.out _ _ ⟨PUT ha 4 hb, HM⟩)
     refine SY ?_ ?_
     ·intro b a w ha HM hb hon hoff K hK
      have e16 := PE ha 4 hon
      refine ST (eC (some 17) rfl #[.int .i64 x1_1] rfl Try.func51 (laws_markText.calls k1 x1_1 t1471 _ A5.out) ?_ (hargs := by (simp only [List.map_toArray, List.map_cons, List.map_nil, evc, eval_of e16]) <;> rfl))
      rintro e w7 ⟨rfl, hR⟩
      refine ⟨_, rfl, ?_⟩
      replace HM := HM.call hR
      clear hR
      exact hK.out _ _ ⟨PUT ha 5 hb, (HM).pick []⟩
     refine SY ?_ ?_
     ·intro b a w ha HM hb hon hoff K hK
      have e15 := PE ha 3 hon
      have e17 := PE ha 5 hon
      exact VL (.bool ((rdOf ByteArray.empty l0 x5_1).toList != t1471.toList)) (hK.out _ _ ⟨PUT ha 6 hb, HM⟩)
     exact steps_nil
    rintro _ w8 ⟨rfl, HM⟩
    simp only [putSel, if_true, Act.put, List.setIfInBounds_toArray, List.set_cons_zero, List.set_cons_succ, gt_iff_lt, ge_iff_le]
    replace H := GD H; obtain ⟨c9, H⟩ := H
    have c9b0 : ((rdOf ByteArray.empty l0 x5_1).toList == t1471.toList) = true := beq_iff_eq.mpr c9
    have c9b1 : ((rdOf ByteArray.empty l0 x5_1).toList != t1471.toList) = false := bne_eq_false_iff_eq.mpr c9
    clear c9
    (first | rw [c9b0] | rw [c9b1] | skip)
    have H' := Aside0.mk H
    clear H
    go_wp2
    go_roundg k1
    case measure => have := HK1.out; omega
    case rel => exact ⟨(wrap64 (x1_1 + 1)), (wrap64 (x5_1 + 1)), RS, RS, H', ⟨by have := HK1.out; omega⟩, (MD HM).pick []⟩
   ·have c3b0 : decide (x5_1 < (l0.length : Int)) = false := decide_eq_false c3
    clear c3
    (first | rw [c3b0] | (simp only [i64_w, i32_w]; rw [c3b0]) | skip)
    obtain rfl := Option.some.inj H
    go_wp2
    go_ret
    exact ⟨ER, (MD HM).pick []⟩
end Go.Proofs.Ytanakbmhclpamaa.G
