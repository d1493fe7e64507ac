/- Part 5 of the claim FnExactOpDo, merged by pack.py (this session's program) out of: the print's words, cut to what is needed; texts that gen.py printed (it runs the kit's print in place); texts of this session. -/
import Derived.Test.YtdeijmofaapgdaaKFnExactOpDo1
import Derived.Test.YtdeijmofaapgdaaKFnExactOpDo2
import Derived.Test.YtdeijmofaapgdaaKFnExactOpDo3
import Derived.Test.YtdeijmofaapgdaaKFnExactOpDo4
namespace Go.Proofs.Ytdeijmofaapgdaa.Mm
end Go.Proofs.Ytdeijmofaapgdaa.Mm
namespace Go.Proofs.Ytdeijmofaapgdaa.Sh
end Go.Proofs.Ytdeijmofaapgdaa.Sh
namespace Go.Proofs.Ytdeijmofaapgdaa.G
open Go.RowKit Go.Proofs.YtdeijmofaapgdaaW.PrintWords Go.Proofs.YtdeijmofaapgdaaW.PrintLast Go.Proofs.YtdeijmofaapgdaaW.PrintMore Go.Proofs.Ytdeijmofaapgdaa.Sh
attribute [local go_sem] max2_int min2_int max_two min_two max_three min_three max_four min_four
set_option linter.unusedVariables false
set_option linter.unusedSimpArgs false
open Go.Proofs.Ytdeijmofaapgdaa.Mm
mutual
def laws_FnExactOpDo.j0 : Nat → Bool → Bool → Bool → Int → Int → List (S97) → List (S97) → List Int → Int → ByteArray → ByteArray → Int → Int → List (S95) → List (S95) → List Int → Bool → ByteArray → ByteArray → Int → Int → List (S95) → List (S95) → List Int → Int → Int → List (S95) → List (S95) → List Int → Bool → ByteArray → ByteArray → Option (Bool)
 | 0, _, _, _, _, _, _, _, _, _, _, _, _, _, _, _, _, _, _, _, _, _, _, _, _, _, _, _, _, _, _, _, _ => none
 | k + 1, x8, x12, x62, x874000, x874001, x874002, x874003, x874004, x875000, x875001, x875002, x907000, x907001, x907002, x907003, x907004, x908000, x908001, x908002, x920000, x920001, x920002, x920003, x920004, x939000, x939001, x939002, x939003, x939004, x940000, x940001, x940002 => if x62 = true then (none) else ((laws_toThree.f k x874000 x874001 x874002 x874003 x874004).bind fun bt942 => ((laws_eqThree.f k x920000 x920001 x920002 x920003 x920004 bt942.1 bt942.2.1 bt942.2.2.1 bt942.2.2.2.1 bt942.2.2.2.2).bind fun t953 => (if t953 = true then ((laws_markThree.f k x920000 x920001 x920002 x920003 x920004 1).bind fun bt954 => (if bt954.1 < 0 then (laws_FnExactOpDo.j1 k x8 true x874000 x874001 x874002 x874003 x874004 x875000 x875001 x875002 x907000 x907001 x907002 x907003 x907004 x908000 x908001 x908002 x939000 x939001 x939002 x939003 x939004) else ((laws_eqThree.f k x939000 x939001 x939002 x939003 x939004 x907000 x907001 x907002 x907003 x907004).bind fun t958 => (if t958 = true then ((laws_eqReply.f x940000 x940001 x940002 x908000 x908001 x908002).bind fun t959 => (if t959 = true then (laws_FnExactOpDo.j1 k x8 (x12 != x8) x874000 x874001 x874002 x874003 x874004 x875000 x875001 x875002 x907000 x907001 x907002 x907003 x907004 x908000 x908001 x908002 x939000 x939001 x939002 x939003 x939004) else (laws_FnExactOpDo.j1 k x8 true x874000 x874001 x874002 x874003 x874004 x875000 x875001 x875002 x907000 x907001 x907002 x907003 x907004 x908000 x908001 x908002 x939000 x939001 x939002 x939003 x939004))) else (laws_FnExactOpDo.j1 k x8 true x874000 x874001 x874002 x874003 x874004 x875000 x875001 x875002 x907000 x907001 x907002 x907003 x907004 x908000 x908001 x908002 x939000 x939001 x939002 x939003 x939004))))) else (none))))
def laws_FnExactOpDo.j1 : Nat → Bool → Bool → Int → Int → List (S97) → List (S97) → List Int → Int → ByteArray → ByteArray → Int → Int → List (S95) → List (S95) → List Int → Bool → ByteArray → ByteArray → Int → Int → List (S95) → List (S95) → List Int → Option (Bool)
 | 0, _, _, _, _, _, _, _, _, _, _, _, _, _, _, _, _, _, _, _, _, _, _, _ => none
 | k + 1, x8, x89, x874000, x874001, x874002, x874003, x874004, x875000, x875001, x875002, x907000, x907001, x907002, x907003, x907004, x908000, x908001, x908002, x939000, x939001, x939002, x939003, x939004 => if x89 = true then (none) else ((laws_markThree.f k x939000 x939001 x939002 x939003 x939004 1).bind fun bt960 => ((laws_heldThree.f k x939000 x939001 bt960.2.1 bt960.2.2.1 bt960.2.2.2 1).bind fun t964 => (if t964 < 0 then (none) else (if t964 = bt960.1 then ((laws_toThree.f k x874000 x874001 x874002 x874003 x874004).bind fun bt965 => ((laws_toOp.f x875000 x875001 x875002).bind fun bt976 => ((impl_OpDo.f k bt965.1 bt965.2.1 bt965.2.2.1 bt965.2.2.2.1 bt965.2.2.2.2 bt976.1 bt976.2.1 bt976.2.2).bind fun bt979 => ((laws_eqThree.f k bt979.1 bt979.2.1 bt979.2.2.1 bt979.2.2.2.1 bt979.2.2.2.2.1 x907000 x907001 x907002 x907003 x907004).bind fun t996 => (if t996 = true then ((laws_eqReply.f bt979.2.2.2.2.2.1 bt979.2.2.2.2.2.2.1 bt979.2.2.2.2.2.2.2.1 x908000 x908001 x908002).bind fun t997 => (if t997 = true then (laws_FnExactOpDo.j2 k bt960.1 (bt979.2.2.2.2.2.2.2.2 != x8) x939000 x939001 bt960.2.1 bt960.2.2.1 bt960.2.2.2) else (laws_FnExactOpDo.j2 k bt960.1 true x939000 x939001 bt960.2.1 bt960.2.2.1 bt960.2.2.2))) else (laws_FnExactOpDo.j2 k bt960.1 true x939000 x939001 bt960.2.1 bt960.2.2.1 bt960.2.2.2)))))) else (none)))))
def laws_FnExactOpDo.j2 : Nat → Int → Bool → Int → Int → List (S95) → List (S95) → List Int → Option (Bool)
 | 0, _, _, _, _, _, _, _ => none
 | k + 1, x14, x124, x939000, x939001, x939002, x939003, x939004 => if x124 = true then (none) else ((laws_heldThree.f k x939000 x939001 x939002 x939003 x939004 1).bind fun t998 => (if t998 < 0 then (none) else (if t998 = x14 then (some true) else (none))))
end
def laws_FnExactOpDo.f (k : Nat) (a0_0 : Int) (a0_1 : Int) (l0_2 : List (S97)) (l0_3 : List (S97)) (l0_4 : List Int) (a1_0 : Int) (a1_1 : ByteArray) (a1_2 : ByteArray) : Option (Bool) := (laws_szThree.f k a0_0 a0_1 l0_2 l0_3 l0_4 1048576).bind fun t875 => (if t875 < 0 then (some true) else ((laws_szOp.f a1_0 a1_1 a1_2 t875).bind fun t876 => (if t876 < 0 then (some true) else ((laws_toThree.f k a0_0 a0_1 l0_2 l0_3 l0_4).bind fun bt877 => ((laws_toOp.f a1_0 a1_1 a1_2).bind fun bt888 => ((spec_OpDo.f k bt877.1 bt877.2.1 bt877.2.2.1 bt877.2.2.2.1 bt877.2.2.2.2 bt888.1 bt888.2.1 bt888.2.2).bind fun bt891 => ((laws_toThree.f k a0_0 a0_1 l0_2 l0_3 l0_4).bind fun bt908 => ((laws_toOp.f a1_0 a1_1 a1_2).bind fun bt920 => ((impl_OpDo.f k bt908.1 bt908.2.1 bt908.2.2.1 bt908.2.2.2.1 bt908.2.2.2.2 bt920.1 bt920.2.1 bt920.2.2).bind fun bt923 => ((laws_eqThree.f k bt923.1 bt923.2.1 bt923.2.2.1 bt923.2.2.2.1 bt923.2.2.2.2.1 bt891.1 bt891.2.1 bt891.2.2.1 bt891.2.2.2.1 bt891.2.2.2.2.1).bind fun t940 => (if t940 = true then ((laws_eqReply.f bt923.2.2.2.2.2.1 bt923.2.2.2.2.2.2.1 bt923.2.2.2.2.2.2.2.1 bt891.2.2.2.2.2.1 bt891.2.2.2.2.2.2.1 bt891.2.2.2.2.2.2.2.1).bind fun t941 => (if t941 = true then (laws_FnExactOpDo.j0 k bt891.2.2.2.2.2.2.2.2 bt923.2.2.2.2.2.2.2.2 (bt923.2.2.2.2.2.2.2.2 != bt891.2.2.2.2.2.2.2.2) a0_0 a0_1 l0_2 l0_3 l0_4 a1_0 a1_1 a1_2 bt891.1 bt891.2.1 bt891.2.2.1 bt891.2.2.2.1 bt891.2.2.2.2.1 bt891.2.2.2.2.2.1 bt891.2.2.2.2.2.2.1 bt891.2.2.2.2.2.2.2.1 bt908.1 bt908.2.1 bt908.2.2.1 bt908.2.2.2.1 bt908.2.2.2.2 bt923.1 bt923.2.1 bt923.2.2.1 bt923.2.2.2.1 bt923.2.2.2.2.1 bt923.2.2.2.2.2.1 bt923.2.2.2.2.2.2.1 bt923.2.2.2.2.2.2.2.1) else (laws_FnExactOpDo.j0 k bt891.2.2.2.2.2.2.2.2 bt923.2.2.2.2.2.2.2.2 true a0_0 a0_1 l0_2 l0_3 l0_4 a1_0 a1_1 a1_2 bt891.1 bt891.2.1 bt891.2.2.1 bt891.2.2.2.1 bt891.2.2.2.2.1 bt891.2.2.2.2.2.1 bt891.2.2.2.2.2.2.1 bt891.2.2.2.2.2.2.2.1 bt908.1 bt908.2.1 bt908.2.2.1 bt908.2.2.2.1 bt908.2.2.2.2 bt923.1 bt923.2.1 bt923.2.2.1 bt923.2.2.2.1 bt923.2.2.2.2.1 bt923.2.2.2.2.2.1 bt923.2.2.2.2.2.2.1 bt923.2.2.2.2.2.2.2.1))) else (laws_FnExactOpDo.j0 k bt891.2.2.2.2.2.2.2.2 bt923.2.2.2.2.2.2.2.2 true a0_0 a0_1 l0_2 l0_3 l0_4 a1_0 a1_1 a1_2 bt891.1 bt891.2.1 bt891.2.2.1 bt891.2.2.2.1 bt891.2.2.2.2.1 bt891.2.2.2.2.2.1 bt891.2.2.2.2.2.2.1 bt891.2.2.2.2.2.2.2.1 bt908.1 bt908.2.1 bt908.2.2.1 bt908.2.2.2.1 bt908.2.2.2.2 bt923.1 bt923.2.1 bt923.2.2.1 bt923.2.2.2.1 bt923.2.2.2.2.1 bt923.2.2.2.2.2.1 bt923.2.2.2.2.2.2.1 bt923.2.2.2.2.2.2.2.1))))))))))))
theorem laws_FnExactOpDo.mono_l : ∀ k, (∀ y0 y1 y2 y3 y4 y5 y6 y7 y8 y9 y10 y11 y12 y13 y14 y15 y16 y17 y18 y19 y20 y21 y22 y23 y24 y25 y26 y27 y28 y29 y30 y31, LeO (laws_FnExactOpDo.j0 k y0 y1 y2 y3 y4 y5 y6 y7 y8 y9 y10 y11 y12 y13 y14 y15 y16 y17 y18 y19 y20 y21 y22 y23 y24 y25 y26 y27 y28 y29 y30 y31) (laws_FnExactOpDo.j0 (k + 1) y0 y1 y2 y3 y4 y5 y6 y7 y8 y9 y10 y11 y12 y13 y14 y15 y16 y17 y18 y19 y20 y21 y22 y23 y24 y25 y26 y27 y28 y29 y30 y31)) ∧ (∀ y0 y1 y2 y3 y4 y5 y6 y7 y8 y9 y10 y11 y12 y13 y14 y15 y16 y17 y18 y19 y20 y21 y22, LeO (laws_FnExactOpDo.j1 k y0 y1 y2 y3 y4 y5 y6 y7 y8 y9 y10 y11 y12 y13 y14 y15 y16 y17 y18 y19 y20 y21 y22) (laws_FnExactOpDo.j1 (k + 1) y0 y1 y2 y3 y4 y5 y6 y7 y8 y9 y10 y11 y12 y13 y14 y15 y16 y17 y18 y19 y20 y21 y22)) ∧ (∀ y0 y1 y2 y3 y4 y5 y6, LeO (laws_FnExactOpDo.j2 k y0 y1 y2 y3 y4 y5 y6) (laws_FnExactOpDo.j2 (k + 1) y0 y1 y2 y3 y4 y5 y6))
 | 0 => ⟨fun _ _ _ _ _ _ _ _ _ _ _ _ _ _ _ _ _ _ _ _ _ _ _ _ _ _ _ _ _ _ _ _ r h => by simp [laws_FnExactOpDo.j0] at h, fun _ _ _ _ _ _ _ _ _ _ _ _ _ _ _ _ _ _ _ _ _ _ _ r h => by simp [laws_FnExactOpDo.j1] at h, fun _ _ _ _ _ _ _ r h => by simp [laws_FnExactOpDo.j2] at h⟩
 | k + 1 => by
  obtain ⟨ih0, ih1, ih2⟩ := laws_FnExactOpDo.mono_l k
  refine ⟨?_, ?_, ?_⟩
  ·intro y0 y1 y2 y3 y4 y5 y6 y7 y8 y9 y10 y11 y12 y13 y14 y15 y16 y17 y18 y19 y20 y21 y22 y23 y24 y25 y26 y27 y28 y29 y30 y31
   unfold laws_FnExactOpDo.j0
   repeat' first | (with_reducible first | exact ih0 _ _ _ _ _ _ _ _ _ _ _ _ _ _ _ _ _ _ _ _ _ _ _ _ _ _ _ _ _ _ _ _ | exact ih1 _ _ _ _ _ _ _ _ _ _ _ _ _ _ _ _ _ _ _ _ _ _ _ | exact ih2 _ _ _ _ _ _ _ | exact impl_OpDo.mono _ _ _ _ _ _ _ _ _ | exact laws_eqThree.mono _ _ _ _ _ _ _ _ _ _ _ | exact laws_heldThree.mono _ _ _ _ _ _ _ | exact laws_markThree.mono _ _ _ _ _ _ _ | exact laws_szThree.mono _ _ _ _ _ _ _ | exact laws_toThree.mono _ _ _ _ _ _ | exact spec_OpDo.mono _ _ _ _ _ _ _ _ _ | exact LeO.refl _ | exact LeO.none _ | refine LeO.ite ?_ ?_ | refine LeO.bind ?_ (fun _ => ?_)) | exact ih0 _ _ _ _ _ _ _ _ _ _ _ _ _ _ _ _ _ _ _ _ _ _ _ _ _ _ _ _ _ _ _ _ | exact ih1 _ _ _ _ _ _ _ _ _ _ _ _ _ _ _ _ _ _ _ _ _ _ _ | exact ih2 _ _ _ _ _ _ _ | exact impl_OpDo.mono _ _ _ _ _ _ _ _ _ | exact laws_eqThree.mono _ _ _ _ _ _ _ _ _ _ _ | exact laws_heldThree.mono _ _ _ _ _ _ _ | exact laws_markThree.mono _ _ _ _ _ _ _ | exact laws_szThree.mono _ _ _ _ _ _ _ | exact laws_toThree.mono _ _ _ _ _ _ | exact spec_OpDo.mono _ _ _ _ _ _ _ _ _ | exact LeO.none _ | refine LeO.ite ?_ ?_ | refine LeO.bind ?_ (fun _ => ?_)
  ·intro y0 y1 y2 y3 y4 y5 y6 y7 y8 y9 y10 y11 y12 y13 y14 y15 y16 y17 y18 y19 y20 y21 y22
   unfold laws_FnExactOpDo.j1
   repeat' first | (with_reducible first | exact ih0 _ _ _ _ _ _ _ _ _ _ _ _ _ _ _ _ _ _ _ _ _ _ _ _ _ _ _ _ _ _ _ _ | exact ih1 _ _ _ _ _ _ _ _ _ _ _ _ _ _ _ _ _ _ _ _ _ _ _ | exact ih2 _ _ _ _ _ _ _ | exact impl_OpDo.mono _ _ _ _ _ _ _ _ _ | exact laws_eqThree.mono _ _ _ _ _ _ _ _ _ _ _ | exact laws_heldThree.mono _ _ _ _ _ _ _ | exact laws_markThree.mono _ _ _ _ _ _ _ | exact laws_szThree.mono _ _ _ _ _ _ _ | exact laws_toThree.mono _ _ _ _ _ _ | exact spec_OpDo.mono _ _ _ _ _ _ _ _ _ | exact LeO.refl _ | exact LeO.none _ | refine LeO.ite ?_ ?_ | refine LeO.bind ?_ (fun _ => ?_)) | exact ih0 _ _ _ _ _ _ _ _ _ _ _ _ _ _ _ _ _ _ _ _ _ _ _ _ _ _ _ _ _ _ _ _ | exact ih1 _ _ _ _ _ _ _ _ _ _ _ _ _ _ _ _ _ _ _ _ _ _ _ | exact ih2 _ _ _ _ _ _ _ | exact impl_OpDo.mono _ _ _ _ _ _ _ _ _ | exact laws_eqThree.mono _ _ _ _ _ _ _ _ _ _ _ | exact laws_heldThree.mono _ _ _ _ _ _ _ | exact laws_markThree.mono _ _ _ _ _ _ _ | exact laws_szThree.mono _ _ _ _ _ _ _ | exact laws_toThree.mono _ _ _ _ _ _ | exact spec_OpDo.mono _ _ _ _ _ _ _ _ _ | exact LeO.none _ | refine LeO.ite ?_ ?_ | refine LeO.bind ?_ (fun _ => ?_)
  ·intro y0 y1 y2 y3 y4 y5 y6
   unfold laws_FnExactOpDo.j2
   repeat' first | (with_reducible first | exact ih0 _ _ _ _ _ _ _ _ _ _ _ _ _ _ _ _ _ _ _ _ _ _ _ _ _ _ _ _ _ _ _ _ | exact ih1 _ _ _ _ _ _ _ _ _ _ _ _ _ _ _ _ _ _ _ _ _ _ _ | exact ih2 _ _ _ _ _ _ _ | exact impl_OpDo.mono _ _ _ _ _ _ _ _ _ | exact laws_eqThree.mono _ _ _ _ _ _ _ _ _ _ _ | exact laws_heldThree.mono _ _ _ _ _ _ _ | exact laws_markThree.mono _ _ _ _ _ _ _ | exact laws_szThree.mono _ _ _ _ _ _ _ | exact laws_toThree.mono _ _ _ _ _ _ | exact spec_OpDo.mono _ _ _ _ _ _ _ _ _ | exact LeO.refl _ | exact LeO.none _ | refine LeO.ite ?_ ?_ | refine LeO.bind ?_ (fun _ => ?_)) | exact ih0 _ _ _ _ _ _ _ _ _ _ _ _ _ _ _ _ _ _ _ _ _ _ _ _ _ _ _ _ _ _ _ _ | exact ih1 _ _ _ _ _ _ _ _ _ _ _ _ _ _ _ _ _ _ _ _ _ _ _ | exact ih2 _ _ _ _ _ _ _ | exact impl_OpDo.mono _ _ _ _ _ _ _ _ _ | exact laws_eqThree.mono _ _ _ _ _ _ _ _ _ _ _ | exact laws_heldThree.mono _ _ _ _ _ _ _ | exact laws_markThree.mono _ _ _ _ _ _ _ | exact laws_szThree.mono _ _ _ _ _ _ _ | exact laws_toThree.mono _ _ _ _ _ _ | exact spec_OpDo.mono _ _ _ _ _ _ _ _ _ | exact LeO.none _ | refine LeO.ite ?_ ?_ | refine LeO.bind ?_ (fun _ => ?_)
theorem laws_FnExactOpDo.mono : ∀ a0 a1 a2 a3 a4 a5 a6 a7 k, LeO (laws_FnExactOpDo.f k a0 a1 a2 a3 a4 a5 a6 a7) (laws_FnExactOpDo.f (k + 1) a0 a1 a2 a3 a4 a5 a6 a7) := by
 intro a0 a1 a2 a3 a4 a5 a6 a7 k
 obtain ⟨ih0, ih1, ih2⟩ := laws_FnExactOpDo.mono_l k
 unfold laws_FnExactOpDo.f
 repeat' first | (with_reducible first | exact ih0 _ _ _ _ _ _ _ _ _ _ _ _ _ _ _ _ _ _ _ _ _ _ _ _ _ _ _ _ _ _ _ _ | exact ih1 _ _ _ _ _ _ _ _ _ _ _ _ _ _ _ _ _ _ _ _ _ _ _ | exact ih2 _ _ _ _ _ _ _ | exact impl_OpDo.mono _ _ _ _ _ _ _ _ _ | exact laws_eqThree.mono _ _ _ _ _ _ _ _ _ _ _ | exact laws_heldThree.mono _ _ _ _ _ _ _ | exact laws_markThree.mono _ _ _ _ _ _ _ | exact laws_szThree.mono _ _ _ _ _ _ _ | exact laws_toThree.mono _ _ _ _ _ _ | exact spec_OpDo.mono _ _ _ _ _ _ _ _ _ | exact LeO.refl _ | exact LeO.none _ | refine LeO.ite ?_ ?_ | refine LeO.bind ?_ (fun _ => ?_)) | exact ih0 _ _ _ _ _ _ _ _ _ _ _ _ _ _ _ _ _ _ _ _ _ _ _ _ _ _ _ _ _ _ _ _ | exact ih1 _ _ _ _ _ _ _ _ _ _ _ _ _ _ _ _ _ _ _ _ _ _ _ | exact ih2 _ _ _ _ _ _ _ | exact impl_OpDo.mono _ _ _ _ _ _ _ _ _ | exact laws_eqThree.mono _ _ _ _ _ _ _ _ _ _ _ | exact laws_heldThree.mono _ _ _ _ _ _ _ | exact laws_markThree.mono _ _ _ _ _ _ _ | exact laws_szThree.mono _ _ _ _ _ _ _ | exact laws_toThree.mono _ _ _ _ _ _ | exact spec_OpDo.mono _ _ _ _ _ _ _ _ _ | exact LeO.none _ | refine LeO.ite ?_ ?_ | refine LeO.bind ?_ (fun _ => ?_)
def laws_FnExactOpDo.T8 : Bool × List (List Nat × List Nat) := (true, [([], []), ([0], [0]), ([], []), ([2, 1], [2]), ([1, 3, 3], [1, 3]), ([4], [4]), ([5], [5]), ([5], [5]), ([5], [5]), ([], []), ([], []), ([9, 6, 4, 0, 1, 2, 3, 4, 5, 6, 9, 10], [6, 9]), ([10, 7, 11, 0, 1, 2, 3, 4, 5, 6, 7, 9, 10, 11], [7, 10]), ([8, 12, 0, 1, 2, 3, 4, 5, 6, 7, 8, 9, 10, 11, 12], [8])])
def laws_FnExactOpDo.B8 : List Nat := [0, 1, 0, 7, 15, 31, 63, 63, 63, 0, 0, 1663, 3839, 8191]
theorem laws_FnExactOpDo.tab8 : rtab .any (opsOf Try.f3 8) = laws_FnExactOpDo.T8 := by kernel_rfl
theorem laws_FnExactOpDo.bits8 : waitsOk laws_FnExactOpDo.T8.2 laws_FnExactOpDo.B8 = true := by kernel_rfl
def laws_FnExactOpDo.T10 : Bool × List (List Nat × List Nat) := (true, [([], []), ([], []), ([1], [1]), ([0, 2, 2], [0, 2]), ([3], [3]), ([4], [4]), ([4], [4]), ([4], [4]), ([], []), ([], []), ([8, 5, 3, 0, 1, 2, 3, 4, 5, 8, 9], [5, 8]), ([9, 6, 10, 0, 1, 2, 3, 4, 5, 6, 8, 9, 10], [6, 9]), ([7, 11, 0, 1, 2, 3, 4, 5, 6, 7, 8, 9, 10, 11], [7])])
def laws_FnExactOpDo.B10 : List Nat := [0, 0, 2, 7, 15, 31, 31, 31, 0, 0, 831, 1919, 4095]
theorem laws_FnExactOpDo.tab10 : rtab .any (opsOf Try.f3 10) = laws_FnExactOpDo.T10 := by kernel_rfl
theorem laws_FnExactOpDo.bits10 : waitsOk laws_FnExactOpDo.T10.2 laws_FnExactOpDo.B10 = true := by kernel_rfl
def laws_FnExactOpDo.T13 : Bool × List (List Nat × List Nat) := (true, [([], []), ([], []), ([1], [1]), ([0, 2, 2], [0, 2]), ([3], [3])])
def laws_FnExactOpDo.B13 : List Nat := [0, 0, 2, 7, 15]
theorem laws_FnExactOpDo.tab13 : rtab .any (opsOf Try.f3 13) = laws_FnExactOpDo.T13 := by kernel_rfl
theorem laws_FnExactOpDo.bits13 : waitsOk laws_FnExactOpDo.T13.2 laws_FnExactOpDo.B13 = true := by kernel_rfl
def laws_FnExactOpDo.T27 : Bool × List (List Nat × List Nat) := (true, [([], []), ([0], [0]), ([], []), ([2, 1], [2]), ([1, 3, 3], [1, 3]), ([4], [4]), ([5], [5]), ([5], [5]), ([5], [5]), ([], []), ([], []), ([9, 6, 4, 0, 1, 2, 3, 4, 5, 6, 9, 10], [6, 9]), ([10, 7, 11, 0, 1, 2, 3, 4, 5, 6, 7, 9, 10, 11], [7, 10]), ([8, 12, 0, 1, 2, 3, 4, 5, 6, 7, 8, 9, 10, 11, 12], [8])])
def laws_FnExactOpDo.B27 : List Nat := [0, 1, 0, 7, 15, 31, 63, 63, 63, 0, 0, 1663, 3839, 8191]
theorem laws_FnExactOpDo.tab27 : rtab .any (opsOf Try.f3 27) = laws_FnExactOpDo.T27 := by kernel_rfl
theorem laws_FnExactOpDo.bits27 : waitsOk laws_FnExactOpDo.T27.2 laws_FnExactOpDo.B27 = true := by kernel_rfl
theorem laws_FnExactOpDo.z0 {P : Prop} (h : P := by have := HJ79.out; have := HJ118.out; first | omega | exact Nat.le_refl _) : P := h
theorem laws_FnExactOpDo.z1 {P : Prop} (h : P := by have := HJ79.out; first | omega | exact Nat.le_refl _) : P := h
set_option maxHeartbeats 8000000 in
set_option maxRecDepth 100000 in
theorem laws_FnExactOpDo.calls (k : Nat) (a0_0 : Int) (a0_1 : Int) (A0_2 : Option Addr) (c0_2 : Nat) (l0_2 : List (S97)) (A0_3 : Option Addr) (c0_3 : Nat) (l0_3 : List (S97)) (A0_4 : Option Addr) (c0_4 : Nat) (l0_4 : List Int) (a1_0 : Int) (a1_1 : ByteArray) (a1_2 : ByteArray) (r : Bool) (w : World) (hr0_2 : Kd.C k97 w A0_2 l0_2.length l0_2) (hc0_2 : l0_2.length ≤ c0_2) (hr0_3 : Kd.C k97 w A0_3 l0_3.length l0_3) (hc0_3 : l0_3.length ≤ c0_3) (hr0_4 : Kd.C (Kd.int .i64) w A0_4 l0_4.length l0_4) (hc0_4 : l0_4.length ≤ c0_4) (h : laws_FnExactOpDo.f k a0_0 a0_1 l0_2 l0_3 l0_4 a1_0 a1_1 a1_2 = some r) :
  Calls Try.prog 3 #[.agg #[.int .i64 a0_0, .int .i64 a0_1, .slice A0_2 l0_2.length c0_2, .slice A0_3 l0_3.length c0_3, .slice A0_4 l0_4.length c0_4], .agg #[.int .i64 a1_0, .string a1_1, .string a1_2]] w fun e w' => e = .returned (.bool r) ∧ Below w.heap.size w w' := by
 have hu25 := Try.underlying25
 have hu27 := Try.underlying27
 have hu32 := Try.underlying32
 have hu34 := Try.underlying34
 have HR0_2 := Aside0.mk hr0_2
 have HC0_2 := Aside0.mk hc0_2
 clear hr0_2 hc0_2
 have HR0_3 := Aside0.mk hr0_3
 have HC0_3 := Aside0.mk hc0_3
 clear hr0_3 hc0_3
 have HR0_4 := Aside0.mk hr0_4
 have HC0_4 := Aside0.mk hc0_4
 clear hr0_4 hc0_4
 have HM := Mem.nil w
 have H := h
 clear h
 unfold laws_FnExactOpDo.f at H
 go_enter Try.func3, Try.ntmps3
 replace H := BN H; obtain ⟨t875, A6, H⟩ := H
 go_upto_if 23 with (first | ((with_reducible refine gate_dst (N := 2) rfl ?_); refine pB 2 25 [.int .i64 a0_0, .int .i64 a0_1, .slice A0_2 l0_2.length c0_2, .slice A0_3 l0_3.length c0_3, .slice A0_4 l0_4.length c0_4] HM rfl ?_; clear HM; intro gb873 w3 HM) | ((with_reducible refine gate_dst (N := 3) rfl ?_); refine pB 3 27 [.int .i64 a1_0, .string a1_1, .string a1_2] HM rfl ?_; clear HM; intro gb874 w4 HM; obtain ⟨hcz5_0, hcz5_1, hcz5_2, hcz5_3, hcz5_4, hfz5_0, hfz5_1, hfz5_2, hfz5_3, hfz5_4⟩ := bk5 (HM.bx 0 rfl)) | ((with_reducible refine gate_callee (f := 6) rfl ?_); refine pC (some 21) rfl #[.agg #[.int .i64 a0_0, .int .i64 a0_1, .slice A0_2 l0_2.length c0_2, .slice A0_3 l0_3.length c0_3, .slice A0_4 l0_4.length c0_4], .int .i64 1048576] rfl Try.func6 (laws_szThree.calls k a0_0 a0_1 _ _ l0_2 _ _ l0_3 _ _ l0_4 1048576 t875 _ (HM.came HR0_2.out) HC0_2.out (HM.came HR0_3.out) HC0_3.out (HM.came HR0_4.out) HC0_4.out A6.out) ?_; rintro e w7 ⟨rfl, hR⟩; refine ⟨_, rfl, ?_⟩; replace HM := HM.call hR; clear hR))
 replace HM := nzM HM
 replace H := IT H; rcases H with ⟨c8, H⟩ | ⟨c8, H⟩
 ·have c8b0 : decide (t875 < 0) = true := decide_eq_true c8
  clear c8
  (first | rw [c8b0] | (simp only [i64_w, i32_w]; rw [c8b0]) | skip)
  obtain rfl := Option.some.inj H
  go_wp2
  go_ret
  exact ⟨ER, HM.bel⟩
 ·have c8b0 : decide (t875 < 0) = false := decide_eq_false c8
  clear c8
  (first | rw [c8b0] | (simp only [i64_w, i32_w]; rw [c8b0]) | skip)
  replace H := BN H; obtain ⟨t876, A10, H⟩ := H
  obtain ⟨hcz9_0, hcz9_1, hcz9_2, hfz9_0, hfz9_1, hfz9_2⟩ := bk3 (HM.bx 1 rfl)
  go_upto_if 28 with (first | ((with_reducible refine gate_callee (f := 7) rfl ?_); refine pC (some 26) rfl #[.agg #[.int .i64 a1_0, .string a1_1, .string a1_2], .int .i64 t875] rfl Try.func7 (laws_szOp.calls a1_0 a1_1 a1_2 t875 t876 _ A10.out) ?_; rintro e w11 ⟨rfl, hR⟩; refine ⟨_, rfl, ?_⟩; replace HM := HM.call hR; clear hR))
  replace H := IT H; rcases H with ⟨c12, H⟩ | ⟨c12, H⟩
  ·have c12b0 : decide (t876 < 0) = true := decide_eq_true c12
   clear c12
   (first | rw [c12b0] | (simp only [i64_w, i32_w]; rw [c12b0]) | skip)
   obtain rfl := Option.some.inj H
   go_wp2
   go_ret
   exact ⟨ER, HM.bel⟩
  ·have c12b0 : decide (t876 < 0) = false := decide_eq_false c12
   clear c12
   (first | rw [c12b0] | (simp only [i64_w, i32_w]; rw [c12b0]) | skip)
   try go_wp2
   replace H := BN H; obtain ⟨⟨t877, t878, t879, t882, t885⟩, A13, H⟩ := H
   replace H := BN H; obtain ⟨⟨t888, t889, t890⟩, A14, H⟩ := H
   replace H := BN H; obtain ⟨⟨t891, t892, t893, t896, t899, t902, t903, t904, t905⟩, A15, H⟩ := H
   refine RGN 14 [0, 1, 2, 3, 4, 5, 6, 7, 8, 9, 10, 11, 12, 13] (fun a0 b a w' => ∃ (v880 : Value) (v883 : Value) (v886 : Value) (v894 : Value) (v897 : Value) (v900 : Value) (gb906 : Nat) (gb907 : Nat), a = putSel a0 b [(0, 30, .agg #[.int .i64 a0_0, .int .i64 a0_1, .slice A0_2 l0_2.length c0_2, .slice A0_3 l0_3.length c0_3, .slice A0_4 l0_4.length c0_4]), (1, 31, .agg #[.int .i64 t877, .int .i64 t878, v880, v883, v886]), (2, 32, .agg #[.int .i64 a1_0, .string a1_1, .string a1_2]), (3, 33, .agg #[.int .i64 t888, .string t889, .string t890]), (4, 34, .tuple #[.agg #[.int .i64 t891, .int .i64 t892, v894, v897, v900], .agg #[.bool t902, .string t903, .string t904], .bool t905]), (5, 29, .tuple #[.agg #[.int .i64 t891, .int .i64 t892, v894, v897, v900], .agg #[.bool t902, .string t903, .string t904], .bool t905]), (6, 35, .agg #[.int .i64 t891, .int .i64 t892, v894, v897, v900]), (7, 36, .agg #[.bool t902, .string t903, .string t904]), (8, 37, .bool t905), (9, 6, .pointer (some ⟨gb906, 0, none⟩)), (10, 7, .pointer (some ⟨gb907, 0, none⟩)), (13, 8, .bool t905)] ∧ Mem w [] w' [box 25 gb873 [.int .i64 a0_0, .int .i64 a0_1, .slice A0_2 l0_2.length c0_2, .slice A0_3 l0_3.length c0_3, .slice A0_4 l0_4.length c0_4], box 27 gb874 [.int .i64 a1_0, .string a1_1, .string a1_2], sel (b 1) (rowR k95 95 v880 t879) (emp), sel (b 1) (rowR k95 95 v883 t882) (emp), sel (b 1) (rowR (Kd.int .i64) 3 v886 t885) (emp), sel (b 4) (rowR k95 95 v894 t893) (emp), sel (b 4) (rowR k95 95 v897 t896) (emp), sel (b 4) (row (Kd.int .i64) 3 v900 t899) (emp), sel (b 11) (box 32 gb906 [.int .i64 t891, .int .i64 t892, v894, v897, v900]) (sel (b 9) (box 32 gb906 [.int .i64 0, .int .i64 0, .slice none 0 0, .slice none 0 0, .slice none 0 0]) (emp)), sel (b 12) (box 34 gb907 [.bool t902, .string t903, .string t904]) (sel (b 10) (box 34 gb907 [.bool false, .string (⟨#[]⟩ : ByteArray), .string (⟨#[]⟩ : ByteArray)]) (emp))]) laws_FnExactOpDo.tab8 laws_FnExactOpDo.bits8 ?_ ?_ ?_
   ·exact ⟨.bool false, .bool false, .bool false, .bool false, .bool false, .bool false, 0, 0, PS0' rfl _, (HM.drew.ems 8).pick [0, 1, 2, 3, 4, 5, 6, 7, 8, 9]⟩
   ·clear HM
    refine steps_cons ?_ ?_
    ·rintro b a w ⟨v880, v883, v886, v894, v897, v900, gb906, gb907, ha, HM⟩ hb hon hoff
     refine ⟨_, rfl, fun K hK => ?_⟩
     obtain ⟨hcz31_0, hcz31_1, hcz31_2, hcz31_3, hcz31_4, hfz31_0, hfz31_1, hfz31_2, hfz31_3, hfz31_4⟩ := bk5 (HM.bx 0 rfl)
     have e2 := POF ha 2
     replace ha := Aside0.mk ha
     exact VL (.agg #[.int .i64 a0_0, .int .i64 a0_1, .slice A0_2 l0_2.length c0_2, .slice A0_3 l0_3.length c0_3, .slice A0_4 l0_4.length c0_4]) (hK.out _ _ ⟨v880, v883, v886, v894, v897, v900, gb906, gb907, PUT ha 0 hb, HM⟩)
    refine steps_cons ?_ ?_
    ·rintro b a w ⟨v880, v883, v886, v894, v897, v900, gb906, gb907, ha, HM⟩ hb hon hoff
     refine ⟨_, rfl, fun K hK => ?_⟩
     have e30 := PON ha 0 (hon 0 (by kernel_rfl))
     replace ha := Aside0.mk ha
     refine ST (eC (some 31) rfl #[.agg #[.int .i64 a0_0, .int .i64 a0_1, .slice A0_2 l0_2.length c0_2, .slice A0_3 l0_3.length c0_3, .slice A0_4 l0_4.length c0_4]] rfl Try.func9 (laws_toThree.calls k a0_0 a0_1 _ _ l0_2 _ _ l0_3 _ _ l0_4 t877 t878 t879 t882 t885 _ (HM.came HR0_2.out) HC0_2.out (HM.came HR0_3.out) HC0_3.out (HM.came HR0_4.out) HC0_4.out A13.out) ?_ (hargs := by (simp only [List.map_toArray, List.map_cons, List.map_nil, evc, eval_of e30]) <;> rfl))
     rintro e w32 ⟨v880, v883, v886, rfl, hR⟩
     refine ⟨_, rfl, ?_⟩
     replace HM := HM.call hR
     clear hR
     exact hK.out _ _ ⟨v880, v883, v886, v894, v897, v900, gb906, gb907, PUT ha 1 hb, (HM).pick [0, 1, 10, 11, 12, 5, 6, 7, 8, 9]⟩
    refine steps_cons ?_ ?_
    ·rintro b a w ⟨v880, v883, v886, v894, v897, v900, gb906, gb907, ha, HM⟩ hb hon hoff
     refine ⟨_, rfl, fun K hK => ?_⟩
     obtain ⟨hcz33_0, hcz33_1, hcz33_2, hfz33_0, hfz33_1, hfz33_2⟩ := bk3 (HM.bx 1 rfl)
     have e3 := POF ha 3
     replace ha := Aside0.mk ha
     exact VL (.agg #[.int .i64 a1_0, .string a1_1, .string a1_2]) (hK.out _ _ ⟨v880, v883, v886, v894, v897, v900, gb906, gb907, PUT ha 2 hb, HM⟩)
    refine steps_cons ?_ ?_
    ·rintro b a w ⟨v880, v883, v886, v894, v897, v900, gb906, gb907, ha, HM⟩ hb hon hoff
     refine ⟨_, rfl, fun K hK => ?_⟩
     have e32 := PON ha 2 (hon 2 (by kernel_rfl))
     replace ha := Aside0.mk ha
     refine ST (eC (some 33) rfl #[.agg #[.int .i64 a1_0, .string a1_1, .string a1_2]] rfl Try.func10 (laws_toOp.calls a1_0 a1_1 a1_2 t888 t889 t890 _ A14.out) ?_ (hargs := by (simp only [List.map_toArray, List.map_cons, List.map_nil, evc, eval_of e32]) <;> rfl))
     rintro e w34 ⟨rfl, hR⟩
     refine ⟨_, rfl, ?_⟩
     replace HM := HM.call hR
     clear hR
     exact hK.out _ _ ⟨v880, v883, v886, v894, v897, v900, gb906, gb907, PUT ha 3 hb, (HM).pick [0, 1, 2, 3, 4, 5, 6, 7, 8, 9]⟩
    refine steps_cons ?_ ?_
    ·rintro b a w ⟨v880, v883, v886, v894, v897, v900, gb906, gb907, ha, HM⟩ hb hon hoff
     refine ⟨_, rfl, fun K hK => ?_⟩
     replace HM := HM.sT 2 rfl (hon 1 (by kernel_rfl))
     replace HM := HM.sT 3 rfl (hon 1 (by kernel_rfl))
     replace HM := HM.sT 4 rfl (hon 1 (by kernel_rfl))
     obtain ⟨Xo36, ko36, eo36⟩ := HM.rdR 2 rfl
     subst eo36
     obtain ⟨Xo37, ko37, eo37⟩ := HM.rdR 3 rfl
     subst eo37
     obtain ⟨Xo38, ko38, eo38⟩ := HM.rdR 4 rfl
     subst eo38
     have e31 := PON ha 1 (hon 1 (by kernel_rfl))
     have e33 := PON ha 3 (hon 3 (by kernel_rfl))
     replace ha := Aside0.mk ha
     refine ST (eC (some 34) rfl #[.agg #[.int .i64 t877, .int .i64 t878, .slice Xo36 t879.length ko36, .slice Xo37 t882.length ko37, .slice Xo38 t885.length ko38], .agg #[.int .i64 t888, .string t889, .string t890]] rfl Try.func8 (spec_OpDo.calls k t877 t878 _ _ t879 _ _ t882 _ _ t885 t888 t889 t890 t891 t892 t893 t896 t899 t902 t903 t904 t905 _ (HM.CR 2 rfl).2.2 (HM.CR 2 rfl).2.1 (HM.CR 3 rfl).2.2 (HM.CR 3 rfl).2.1 (HM.CR 4 rfl).2.2 (HM.CR 4 rfl).2.1 A15.out) ?_ (hargs := by (simp only [List.map_toArray, List.map_cons, List.map_nil, evc, eval_of e31, eval_of e33]) <;> rfl))
     rintro e w35 ⟨v894, v897, v900, rfl, hR⟩
     refine ⟨_, rfl, ?_⟩
     replace HM := HM.call hR
     clear hR
     exact hK.out _ _ ⟨.slice Xo36 t879.length ko36, .slice Xo37 t882.length ko37, .slice Xo38 t885.length ko38, v894, v897, v900, gb906, gb907, PUT (PCH (PCH ha 5 (hoff 5 (by kernel_rfl))) 6 (hoff 6 (by kernel_rfl))) 4 hb, (((((HM.iT 2 rfl (hon 1 (by kernel_rfl))).iT 3 rfl (hon 1 (by kernel_rfl))).iT 4 rfl (hon 1 (by kernel_rfl))).sF 8 rfl (hoff 11 (by kernel_rfl))).iF 8 rfl (hoff 11 (by kernel_rfl))).pick [0, 1, 2, 3, 4, 10, 11, 12, 8, 9]⟩
    refine steps_cons ?_ ?_
    ·rintro b a w ⟨v880, v883, v886, v894, v897, v900, gb906, gb907, ha, HM⟩ hb hon hoff
     refine ⟨_, rfl, fun K hK => ?_⟩
     have e34 := PON ha 4 (hon 4 (by kernel_rfl))
     replace ha := Aside0.mk ha
     exact VL (.tuple #[.agg #[.int .i64 t891, .int .i64 t892, v894, v897, v900], .agg #[.bool t902, .string t903, .string t904], .bool t905]) (hK.out _ _ ⟨v880, v883, v886, v894, v897, v900, gb906, gb907, PUT ha 5 hb, HM⟩)
    refine steps_cons ?_ ?_
    ·rintro b a w ⟨v880, v883, v886, v894, v897, v900, gb906, gb907, ha, HM⟩ hb hon hoff
     refine ⟨_, rfl, fun K hK => ?_⟩
     have e29 := PON ha 5 (hon 5 (by kernel_rfl))
     replace ha := Aside0.mk ha
     exact VL (.agg #[.int .i64 t891, .int .i64 t892, v894, v897, v900]) (hK.out _ _ ⟨v880, v883, v886, v894, v897, v900, gb906, gb907, PUT ha 6 hb, HM⟩)
    refine steps_cons ?_ ?_
    ·rintro b a w ⟨v880, v883, v886, v894, v897, v900, gb906, gb907, ha, HM⟩ hb hon hoff
     refine ⟨_, rfl, fun K hK => ?_⟩
     have e29 := PON ha 5 (hon 5 (by kernel_rfl))
     replace ha := Aside0.mk ha
     exact VL (.agg #[.bool t902, .string t903, .string t904]) (hK.out _ _ ⟨v880, v883, v886, v894, v897, v900, gb906, gb907, PUT ha 7 hb, HM⟩)
    refine steps_cons ?_ ?_
    ·rintro b a w ⟨v880, v883, v886, v894, v897, v900, gb906, gb907, ha, HM⟩ hb hon hoff
     refine ⟨_, rfl, fun K hK => ?_⟩
     have e29 := PON ha 5 (hon 5 (by kernel_rfl))
     replace ha := Aside0.mk ha
     exact VL (.bool t905) (hK.out _ _ ⟨v880, v883, v886, v894, v897, v900, gb906, gb907, PUT ha 8 hb, HM⟩)
    refine steps_cons ?_ ?_
    ·rintro b a w ⟨v880, v883, v886, v894, v897, v900, gb906, gb907, ha, HM⟩ hb hon hoff
     refine ⟨_, rfl, fun K hK => ?_⟩
     replace ha := Aside0.mk ha
     refine ST (eB 6 32 [.int .i64 0, .int .i64 0, .slice none 0 0, .slice none 0 0, .slice none 0 0] HM rfl ?_)
     clear HM
     intro gb906 w39 HM
     exact hK.out _ _ ⟨v880, v883, v886, v894, v897, v900, gb906, gb907, PUT ha 9 hb, (HM.iF 10 rfl (hoff 11 (by kernel_rfl))).pick [0, 1, 2, 3, 4, 5, 6, 7, 10, 9]⟩
    refine steps_cons ?_ ?_
    ·rintro b a w ⟨v880, v883, v886, v894, v897, v900, gb906, gb907, ha, HM⟩ hb hon hoff
     refine ⟨_, rfl, fun K hK => ?_⟩
     replace ha := Aside0.mk ha
     refine ST (eB 7 34 [.bool false, .string (⟨#[]⟩ : ByteArray), .string (⟨#[]⟩ : ByteArray)] HM rfl ?_)
     clear HM
     intro gb907 w40 HM
     exact hK.out _ _ ⟨v880, v883, v886, v894, v897, v900, gb906, gb907, PUT ha 10 hb, (HM.iF 10 rfl (hoff 12 (by kernel_rfl))).pick [0, 1, 2, 3, 4, 5, 6, 7, 8, 10]⟩
    refine steps_cons ?_ ?_
    ·rintro b a w ⟨v880, v883, v886, v894, v897, v900, gb906, gb907, ha, HM⟩ hb hon hoff
     refine ⟨_, rfl, fun K hK => ?_⟩
     replace HM := HM.sT 5 rfl (hon 4 (by kernel_rfl))
     replace HM := HM.sT 6 rfl (hon 4 (by kernel_rfl))
     replace HM := HM.sT 7 rfl (hon 4 (by kernel_rfl))
     replace HM := (HM.sF 8 rfl hb).sT 8 rfl (hon 9 (by kernel_rfl))
     obtain ⟨Xo41, ko41, eo41⟩ := HM.rdR 5 rfl
     subst eo41
     obtain ⟨Xo42, ko42, eo42⟩ := HM.rdR 6 rfl
     subst eo42
     obtain ⟨Xo43, ko43, eo43⟩ := HM.rd 7 rfl
     subst eo43
     have e6 := PON ha 9 (hon 9 (by kernel_rfl))
     have e35 := PON ha 6 (hon 6 (by kernel_rfl))
     replace ha := Aside0.mk ha
     refine ST (eS 8 6 0 [.int .i64 t891, .int .i64 t892, .slice Xo41 t893.length ko41, .slice Xo42 t896.length ko42, .slice Xo43 t899.length ko43] HM rfl rfl ?_ (hp := (eval_of e6)) (hx := (by rw [eval_of e35]; rfl)))
     clear HM
     intro w44 HM
     exact hK.out _ _ ⟨v880, v883, v886, .slice Xo41 t893.length ko41, .slice Xo42 t896.length ko42, .slice Xo43 t899.length ko43, gb906, gb907, PUS ha, (((HM.iT 5 rfl (hon 4 (by kernel_rfl))).iT 6 rfl (hon 4 (by kernel_rfl))).iT 7 rfl (hon 4 (by kernel_rfl))).pick [0, 1, 2, 3, 4, 5, 6, 7, 8, 9]⟩
    refine steps_cons ?_ ?_
    ·rintro b a w ⟨v880, v883, v886, v894, v897, v900, gb906, gb907, ha, HM⟩ hb hon hoff
     refine ⟨_, rfl, fun K hK => ?_⟩
     replace HM := (HM.sF 9 rfl hb).sT 9 rfl (hon 10 (by kernel_rfl))
     have e7 := PON ha 10 (hon 10 (by kernel_rfl))
     have e36 := PON ha 7 (hon 7 (by kernel_rfl))
     replace ha := Aside0.mk ha
     refine ST (eS 9 7 0 [.bool t902, .string t903, .string t904] HM rfl rfl ?_ (hp := (eval_of e7)) (hx := (by rw [eval_of e36]; rfl)))
     clear HM
     intro w45 HM
     exact hK.out _ _ ⟨v880, v883, v886, v894, v897, v900, gb906, gb907, PUS ha, (HM).pick [0, 1, 2, 3, 4, 5, 6, 7, 8, 9]⟩
    refine steps_cons ?_ ?_
    ·rintro b a w ⟨v880, v883, v886, v894, v897, v900, gb906, gb907, ha, HM⟩ hb hon hoff
     refine ⟨_, rfl, fun K hK => ?_⟩
     have e37 := PON ha 8 (hon 8 (by kernel_rfl))
     replace ha := Aside0.mk ha
     exact VL (.bool t905) (hK.out _ _ ⟨v880, v883, v886, v894, v897, v900, gb906, gb907, PUT ha 11 hb, HM⟩)
    exact steps_nil
   rintro _ w46 ⟨v880, v883, v886, v894, v897, v900, gb906, gb907, rfl, HM⟩
   replace HM := HM.sT 2 rfl rfl
   replace HM := HM.sT 3 rfl rfl
   replace HM := HM.sT 4 rfl rfl
   replace HM := HM.sT 5 rfl rfl
   replace HM := HM.sT 6 rfl rfl
   replace HM := HM.sT 7 rfl rfl
   replace HM := HM.sT 8 rfl rfl
   replace HM := HM.sT 9 rfl rfl
   simp only [putSel, if_true, Act.put, List.setIfInBounds_toArray, List.set_cons_zero, List.set_cons_succ, gt_iff_lt, ge_iff_le]
   replace H := BN H; obtain ⟨⟨t908, t909, t910, t913, t916⟩, A48, H⟩ := H
   obtain ⟨hcz47_0, hcz47_1, hcz47_2, hcz47_3, hcz47_4, hfz47_0, hfz47_1, hfz47_2, hfz47_3, hfz47_4⟩ := bk5 (HM.bx 0 rfl)
   try go_wp2_with (first | ((with_reducible refine gate_callee (f := 9) rfl ?_); refine pC (some 39) rfl #[.agg #[.int .i64 a0_0, .int .i64 a0_1, .slice A0_2 l0_2.length c0_2, .slice A0_3 l0_3.length c0_3, .slice A0_4 l0_4.length c0_4]] rfl Try.func9 (laws_toThree.calls k a0_0 a0_1 _ _ l0_2 _ _ l0_3 _ _ l0_4 t908 t909 t910 t913 t916 _ (HM.came HR0_2.out) HC0_2.out (HM.came HR0_3.out) HC0_3.out (HM.came HR0_4.out) HC0_4.out A48.out) ?_; rintro e w49 ⟨v911, v914, v917, rfl, hR⟩; refine ⟨_, rfl, ?_⟩; replace HM := HM.call hR; clear hR) | ((with_reducible refine gate_dst (N := 9) rfl ?_); refine pB 9 32 [.int .i64 0, .int .i64 0, .slice none 0 0, .slice none 0 0, .slice none 0 0] HM rfl ?_; clear HM; intro gb919 w50 HM; obtain ⟨Xo51, ko51, eo51⟩ := HM.rdR 10 rfl; subst eo51; obtain ⟨Xo52, ko52, eo52⟩ := HM.rdR 11 rfl; subst eo52; obtain ⟨Xo53, ko53, eo53⟩ := HM.rdR 12 rfl; subst eo53) | ((with_reducible refine gate_st (p := 9) rfl ?_); refine pS 13 9 0 [.int .i64 t908, .int .i64 t909, .slice Xo51 t910.length ko51, .slice Xo52 t913.length ko52, .slice Xo53 t916.length ko53] HM rfl rfl ?_; clear HM; intro w54 HM))
   replace H := BN H; obtain ⟨⟨t920, t921, t922⟩, A55, H⟩ := H
   replace H := BN H; obtain ⟨⟨t923, t924, t925, t928, t931, t934, t935, t936, t937⟩, A56, H⟩ := H
   refine RGN 13 [0, 1, 2, 3, 4, 5, 6, 7, 8, 9, 10, 11, 12] (fun a0 b a w' => ∃ (v926 : Value) (v929 : Value) (v932 : Value) (gb938 : Nat) (gb939 : Nat), a = putSel a0 b [(0, 41, .agg #[.int .i64 t908, .int .i64 t909, .slice Xo51 t910.length ko51, .slice Xo52 t913.length ko52, .slice Xo53 t916.length ko53]), (1, 42, .agg #[.int .i64 a1_0, .string a1_1, .string a1_2]), (2, 43, .agg #[.int .i64 t920, .string t921, .string t922]), (3, 44, .tuple #[.agg #[.int .i64 t923, .int .i64 t924, v926, v929, v932], .agg #[.bool t934, .string t935, .string t936], .bool t937]), (4, 40, .tuple #[.agg #[.int .i64 t923, .int .i64 t924, v926, v929, v932], .agg #[.bool t934, .string t935, .string t936], .bool t937]), (5, 45, .agg #[.int .i64 t923, .int .i64 t924, v926, v929, v932]), (6, 46, .agg #[.bool t934, .string t935, .string t936]), (7, 47, .bool t937), (8, 10, .pointer (some ⟨gb938, 0, none⟩)), (9, 11, .pointer (some ⟨gb939, 0, none⟩)), (12, 12, .bool t937)] ∧ Mem w [] w' [box 25 gb873 [.int .i64 a0_0, .int .i64 a0_1, .slice A0_2 l0_2.length c0_2, .slice A0_3 l0_3.length c0_3, .slice A0_4 l0_4.length c0_4], box 27 gb874 [.int .i64 a1_0, .string a1_1, .string a1_2], rowR k95 95 v880 t879, rowR k95 95 v883 t882, rowR (Kd.int .i64) 3 v886 t885, rowR k95 95 v894 t893, rowR k95 95 v897 t896, row (Kd.int .i64) 3 v900 t899, box 32 gb906 [.int .i64 t891, .int .i64 t892, v894, v897, v900], box 34 gb907 [.bool t902, .string t903, .string t904], rowR k95 95 (.slice Xo51 t910.length ko51) t910, rowR k95 95 (.slice Xo52 t913.length ko52) t913, rowR (Kd.int .i64) 3 (.slice Xo53 t916.length ko53) t916, box 32 gb919 [.int .i64 t908, .int .i64 t909, .slice Xo51 t910.length ko51, .slice Xo52 t913.length ko52, .slice Xo53 t916.length ko53], sel (b 3) (rowR k95 95 v926 t925) (emp), sel (b 3) (rowR k95 95 v929 t928) (emp), sel (b 3) (rowR (Kd.int .i64) 3 v932 t931) (emp), sel (b 10) (box 32 gb938 [.int .i64 t923, .int .i64 t924, v926, v929, v932]) (sel (b 8) (box 32 gb938 [.int .i64 0, .int .i64 0, .slice none 0 0, .slice none 0 0, .slice none 0 0]) (emp)), sel (b 11) (box 34 gb939 [.bool t934, .string t935, .string t936]) (sel (b 9) (box 34 gb939 [.bool false, .string (⟨#[]⟩ : ByteArray), .string (⟨#[]⟩ : ByteArray)]) (emp))]) laws_FnExactOpDo.tab10 laws_FnExactOpDo.bits10 ?_ ?_ ?_
   ·exact ⟨.bool false, .bool false, .bool false, 0, 0, PS0' rfl _, (HM.drew.ems 5).pick [0, 1, 2, 3, 4, 5, 6, 7, 8, 9, 10, 11, 12, 13, 14, 15, 16, 17, 18]⟩
   ·clear HM
    refine steps_cons ?_ ?_
    ·rintro b a w ⟨v926, v929, v932, gb938, gb939, ha, HM⟩ hb hon hoff
     refine ⟨_, rfl, fun K hK => ?_⟩
     obtain ⟨hcz68_0, hcz68_1, hcz68_2, hcz68_3, hcz68_4, hfz68_0, hfz68_1, hfz68_2, hfz68_3, hfz68_4⟩ := bk5 (HM.bx 13 rfl)
     have e9 := POF ha 9
     replace ha := Aside0.mk ha
     exact VL (.agg #[.int .i64 t908, .int .i64 t909, .slice Xo51 t910.length ko51, .slice Xo52 t913.length ko52, .slice Xo53 t916.length ko53]) (hK.out _ _ ⟨v926, v929, v932, gb938, gb939, PUT ha 0 hb, HM⟩)
    refine steps_cons ?_ ?_
    ·rintro b a w ⟨v926, v929, v932, gb938, gb939, ha, HM⟩ hb hon hoff
     refine ⟨_, rfl, fun K hK => ?_⟩
     obtain ⟨hcz69_0, hcz69_1, hcz69_2, hfz69_0, hfz69_1, hfz69_2⟩ := bk3 (HM.bx 1 rfl)
     have e3 := POF ha 3
     replace ha := Aside0.mk ha
     exact VL (.agg #[.int .i64 a1_0, .string a1_1, .string a1_2]) (hK.out _ _ ⟨v926, v929, v932, gb938, gb939, PUT ha 1 hb, HM⟩)
    refine steps_cons ?_ ?_
    ·rintro b a w ⟨v926, v929, v932, gb938, gb939, ha, HM⟩ hb hon hoff
     refine ⟨_, rfl, fun K hK => ?_⟩
     have e42 := PON ha 1 (hon 1 (by kernel_rfl))
     replace ha := Aside0.mk ha
     refine ST (eC (some 43) rfl #[.agg #[.int .i64 a1_0, .string a1_1, .string a1_2]] rfl Try.func10 (laws_toOp.calls a1_0 a1_1 a1_2 t920 t921 t922 _ A55.out) ?_ (hargs := by (simp only [List.map_toArray, List.map_cons, List.map_nil, evc, eval_of e42]) <;> rfl))
     rintro e w70 ⟨rfl, hR⟩
     refine ⟨_, rfl, ?_⟩
     replace HM := HM.call hR
     clear hR
     exact hK.out _ _ ⟨v926, v929, v932, gb938, gb939, PUT ha 2 hb, (HM).pick [0, 1, 2, 3, 4, 5, 6, 7, 8, 9, 10, 11, 12, 13, 14, 15, 16, 17, 18]⟩
    refine steps_cons ?_ ?_
    ·rintro b a w ⟨v926, v929, v932, gb938, gb939, ha, HM⟩ hb hon hoff
     refine ⟨_, rfl, fun K hK => ?_⟩
     have e41 := PON ha 0 (hon 0 (by kernel_rfl))
     have e43 := PON ha 2 (hon 2 (by kernel_rfl))
     replace ha := Aside0.mk ha
     refine ST (eC (some 44) rfl #[.agg #[.int .i64 t908, .int .i64 t909, .slice Xo51 t910.length ko51, .slice Xo52 t913.length ko52, .slice Xo53 t916.length ko53], .agg #[.int .i64 t920, .string t921, .string t922]] rfl Try.func11 (impl_OpDo.calls k t908 t909 _ _ t910 _ _ t913 _ _ t916 t920 t921 t922 t923 t924 t925 t928 t931 t934 t935 t936 t937 _ (HM.CR 10 rfl).2.2 (HM.CR 10 rfl).2.1 (HM.CR 11 rfl).2.2 (HM.CR 11 rfl).2.1 (HM.CR 12 rfl).2.2 (HM.CR 12 rfl).2.1 A56.out) ?_ (hargs := by (simp only [List.map_toArray, List.map_cons, List.map_nil, evc, eval_of e41, eval_of e43]) <;> rfl))
     rintro e w71 ⟨v926, v929, v932, rfl, hR⟩
     refine ⟨_, rfl, ?_⟩
     replace HM := HM.call hR
     clear hR
     exact hK.out _ _ ⟨v926, v929, v932, gb938, gb939, PUT (PCH (PCH ha 4 (hoff 4 (by kernel_rfl))) 5 (hoff 5 (by kernel_rfl))) 3 hb, ((HM.sF 17 rfl (hoff 10 (by kernel_rfl))).iF 17 rfl (hoff 10 (by kernel_rfl))).pick [0, 1, 2, 3, 4, 5, 6, 7, 8, 9, 10, 11, 12, 13, 19, 20, 21, 17, 18]⟩
    refine steps_cons ?_ ?_
    ·rintro b a w ⟨v926, v929, v932, gb938, gb939, ha, HM⟩ hb hon hoff
     refine ⟨_, rfl, fun K hK => ?_⟩
     have e44 := PON ha 3 (hon 3 (by kernel_rfl))
     replace ha := Aside0.mk ha
     exact VL (.tuple #[.agg #[.int .i64 t923, .int .i64 t924, v926, v929, v932], .agg #[.bool t934, .string t935, .string t936], .bool t937]) (hK.out _ _ ⟨v926, v929, v932, gb938, gb939, PUT ha 4 hb, HM⟩)
    refine steps_cons ?_ ?_
    ·rintro b a w ⟨v926, v929, v932, gb938, gb939, ha, HM⟩ hb hon hoff
     refine ⟨_, rfl, fun K hK => ?_⟩
     have e40 := PON ha 4 (hon 4 (by kernel_rfl))
     replace ha := Aside0.mk ha
     exact VL (.agg #[.int .i64 t923, .int .i64 t924, v926, v929, v932]) (hK.out _ _ ⟨v926, v929, v932, gb938, gb939, PUT ha 5 hb, HM⟩)
    refine steps_cons ?_ ?_
    ·rintro b a w ⟨v926, v929, v932, gb938, gb939, ha, HM⟩ hb hon hoff
     refine ⟨_, rfl, fun K hK => ?_⟩
     have e40 := PON ha 4 (hon 4 (by kernel_rfl))
     replace ha := Aside0.mk ha
     exact VL (.agg #[.bool t934, .string t935, .string t936]) (hK.out _ _ ⟨v926, v929, v932, gb938, gb939, PUT ha 6 hb, HM⟩)
    refine steps_cons ?_ ?_
    ·rintro b a w ⟨v926, v929, v932, gb938, gb939, ha, HM⟩ hb hon hoff
     refine ⟨_, rfl, fun K hK => ?_⟩
     have e40 := PON ha 4 (hon 4 (by kernel_rfl))
     replace ha := Aside0.mk ha
     exact VL (.bool t937) (hK.out _ _ ⟨v926, v929, v932, gb938, gb939, PUT ha 7 hb, HM⟩)
    refine steps_cons ?_ ?_
    ·rintro b a w ⟨v926, v929, v932, gb938, gb939, ha, HM⟩ hb hon hoff
     refine ⟨_, rfl, fun K hK => ?_⟩
     replace ha := Aside0.mk ha
     refine ST (eB 10 32 [.int .i64 0, .int .i64 0, .slice none 0 0, .slice none 0 0, .slice none 0 0] HM rfl ?_)
     clear HM
     intro gb938 w72 HM
     exact hK.out _ _ ⟨v926, v929, v932, gb938, gb939, PUT ha 8 hb, (HM.iF 19 rfl (hoff 10 (by kernel_rfl))).pick [0, 1, 2, 3, 4, 5, 6, 7, 8, 9, 10, 11, 12, 13, 14, 15, 16, 19, 18]⟩
    refine steps_cons ?_ ?_
    ·rintro b a w ⟨v926, v929, v932, gb938, gb939, ha, HM⟩ hb hon hoff
     refine ⟨_, rfl, fun K hK => ?_⟩
     replace ha := Aside0.mk ha
     refine ST (eB 11 34 [.bool false, .string (⟨#[]⟩ : ByteArray), .string (⟨#[]⟩ : ByteArray)] HM rfl ?_)
     clear HM
     intro gb939 w73 HM
     exact hK.out _ _ ⟨v926, v929, v932, gb938, gb939, PUT ha 9 hb, (HM.iF 19 rfl (hoff 11 (by kernel_rfl))).pick [0, 1, 2, 3, 4, 5, 6, 7, 8, 9, 10, 11, 12, 13, 14, 15, 16, 17, 19]⟩
    refine steps_cons ?_ ?_
    ·rintro b a w ⟨v926, v929, v932, gb938, gb939, ha, HM⟩ hb hon hoff
     refine ⟨_, rfl, fun K hK => ?_⟩
     replace HM := HM.sT 14 rfl (hon 3 (by kernel_rfl))
     replace HM := HM.sT 15 rfl (hon 3 (by kernel_rfl))
     replace HM := HM.sT 16 rfl (hon 3 (by kernel_rfl))
     replace HM := (HM.sF 17 rfl hb).sT 17 rfl (hon 8 (by kernel_rfl))
     obtain ⟨Xo74, ko74, eo74⟩ := HM.rdR 14 rfl
     subst eo74
     obtain ⟨Xo75, ko75, eo75⟩ := HM.rdR 15 rfl
     subst eo75
     obtain ⟨Xo76, ko76, eo76⟩ := HM.rdR 16 rfl
     subst eo76
     have e10 := PON ha 8 (hon 8 (by kernel_rfl))
     have e45 := PON ha 5 (hon 5 (by kernel_rfl))
     replace ha := Aside0.mk ha
     refine ST (eS 17 10 0 [.int .i64 t923, .int .i64 t924, .slice Xo74 t925.length ko74, .slice Xo75 t928.length ko75, .slice Xo76 t931.length ko76] HM rfl rfl ?_ (hp := (eval_of e10)) (hx := (by rw [eval_of e45]; rfl)))
     clear HM
     intro w77 HM
     exact hK.out _ _ ⟨.slice Xo74 t925.length ko74, .slice Xo75 t928.length ko75, .slice Xo76 t931.length ko76, gb938, gb939, PUS ha, (((HM.iT 14 rfl (hon 3 (by kernel_rfl))).iT 15 rfl (hon 3 (by kernel_rfl))).iT 16 rfl (hon 3 (by kernel_rfl))).pick [0, 1, 2, 3, 4, 5, 6, 7, 8, 9, 10, 11, 12, 13, 14, 15, 16, 17, 18]⟩
    refine steps_cons ?_ ?_
    ·rintro b a w ⟨v926, v929, v932, gb938, gb939, ha, HM⟩ hb hon hoff
     refine ⟨_, rfl, fun K hK => ?_⟩
     replace HM := (HM.sF 18 rfl hb).sT 18 rfl (hon 9 (by kernel_rfl))
     have e11 := PON ha 9 (hon 9 (by kernel_rfl))
     have e46 := PON ha 6 (hon 6 (by kernel_rfl))
     replace ha := Aside0.mk ha
     refine ST (eS 18 11 0 [.bool t934, .string t935, .string t936] HM rfl rfl ?_ (hp := (eval_of e11)) (hx := (by rw [eval_of e46]; rfl)))
     clear HM
     intro w78 HM
     exact hK.out _ _ ⟨v926, v929, v932, gb938, gb939, PUS ha, (HM).pick [0, 1, 2, 3, 4, 5, 6, 7, 8, 9, 10, 11, 12, 13, 14, 15, 16, 17, 18]⟩
    refine steps_cons ?_ ?_
    ·rintro b a w ⟨v926, v929, v932, gb938, gb939, ha, HM⟩ hb hon hoff
     refine ⟨_, rfl, fun K hK => ?_⟩
     have e47 := PON ha 7 (hon 7 (by kernel_rfl))
     replace ha := Aside0.mk ha
     exact VL (.bool t937) (hK.out _ _ ⟨v926, v929, v932, gb938, gb939, PUT ha 10 hb, HM⟩)
    exact steps_nil
   rintro _ w79 ⟨v926, v929, v932, gb938, gb939, rfl, HM⟩
   replace HM := HM.sT 14 rfl rfl
   replace HM := HM.sT 15 rfl rfl
   replace HM := HM.sT 16 rfl rfl
   replace HM := HM.sT 17 rfl rfl
   replace HM := HM.sT 18 rfl rfl
   simp only [putSel, if_true, Act.put, List.setIfInBounds_toArray, List.set_cons_zero, List.set_cons_succ, gt_iff_lt, ge_iff_le]
   have HC80 := Aside0.mk H
   clear H
   go_upto_region 11 with (fail)
   go_cut [62] (fun v62 wc => ∃ (kq : Nat) (x62_79 : Bool), v62 = .bool x62_79 ∧ Aside0 (laws_FnExactOpDo.j0 kq t905 t937 x62_79 a0_0 a0_1 l0_2 l0_3 l0_4 a1_0 a1_1 a1_2 t891 t892 t893 t896 t899 t902 t903 t904 t908 t909 t910 t913 t916 t923 t924 t925 t928 t931 t934 t935 t936 = some r) ∧ Aside0 (kq ≤ k) ∧ Mem w [] wc [rowR k95 95 v894 t893, rowR k95 95 v897 t896, row (Kd.int .i64) 3 v900 t899, rowR k95 95 (.slice Xo51 t910.length ko51) t910, rowR k95 95 (.slice Xo52 t913.length ko52) t913, rowR (Kd.int .i64) 3 (.slice Xo53 t916.length ko53) t916, rowR k95 95 v926 t925, rowR k95 95 v929 t928, rowR (Kd.int .i64) 3 v932 t931, box 25 gb873 [.int .i64 a0_0, .int .i64 a0_1, .slice A0_2 l0_2.length c0_2, .slice A0_3 l0_3.length c0_3, .slice A0_4 l0_4.length c0_4], box 27 gb874 [.int .i64 a1_0, .string a1_1, .string a1_2], box 32 gb906 [.int .i64 t891, .int .i64 t892, v894, v897, v900], box 34 gb907 [.bool t902, .string t903, .string t904], box 32 gb919 [.int .i64 t908, .int .i64 t909, (.slice Xo51 t910.length ko51), (.slice Xo52 t913.length ko52), (.slice Xo53 t916.length ko53)], box 32 gb938 [.int .i64 t923, .int .i64 t924, v926, v929, v932], box 34 gb939 [.bool t934, .string t935, .string t936]])
   case first =>
    have H := HC80.out
    clear HC80
    replace H := BN H; obtain ⟨t940, A83, H⟩ := H
    replace H := IB H
    rcases H with ⟨c91, H⟩ | ⟨c91, H⟩
    ·subst c91
     replace H := BN H; obtain ⟨t941, A94, H⟩ := H
     replace H := IB H
     rcases H with ⟨c96, H⟩ | ⟨c96, H⟩
     ·subst c96
      have H' := Aside0.mk H
      clear H
      obtain ⟨hcz81_0, hcz81_1, hcz81_2, hcz81_3, hcz81_4, hfz81_0, hfz81_1, hfz81_2, hfz81_3, hfz81_4⟩ := bk5 (HM.bx 17 rfl)
      obtain ⟨hcz82_0, hcz82_1, hcz82_2, hcz82_3, hcz82_4, hfz82_0, hfz82_1, hfz82_2, hfz82_3, hfz82_4⟩ := bk5 (HM.bx 8 rfl)
      obtain ⟨Xo85, ko85, eo85⟩ := HM.rdR 14 rfl
      subst eo85
      obtain ⟨Xo86, ko86, eo86⟩ := HM.rdR 15 rfl
      subst eo86
      obtain ⟨Xo87, ko87, eo87⟩ := HM.rdR 16 rfl
      subst eo87
      obtain ⟨Xo88, ko88, eo88⟩ := HM.rdR 5 rfl
      subst eo88
      obtain ⟨Xo89, ko89, eo89⟩ := HM.rdR 6 rfl
      subst eo89
      obtain ⟨Xo90, ko90, eo90⟩ := HM.rd 7 rfl
      subst eo90
      go_wp2_with (first | ((with_reducible refine gate_callee (f := 12) rfl ?_); refine pC (some 50) rfl #[.agg #[.int .i64 t923, .int .i64 t924, .slice Xo85 t925.length ko85, .slice Xo86 t928.length ko86, .slice Xo87 t931.length ko87], .agg #[.int .i64 t891, .int .i64 t892, .slice Xo88 t893.length ko88, .slice Xo89 t896.length ko89, .slice Xo90 t899.length ko90]] rfl Try.func12 (laws_eqThree.calls k t923 t924 _ _ t925 _ _ t928 _ _ t931 t891 t892 _ _ t893 _ _ t896 _ _ t899 true _ (HM.CR 14 rfl).2.2 (HM.CR 14 rfl).2.1 (HM.CR 15 rfl).2.2 (HM.CR 15 rfl).2.1 (HM.CR 16 rfl).2.2 (HM.CR 16 rfl).2.1 (HM.CR 5 rfl).2.2 (HM.CR 5 rfl).2.1 (HM.CR 6 rfl).2.2 (HM.CR 6 rfl).2.1 (HM.C 7 rfl).2.2 (HM.C 7 rfl).2.1 A83.out) ?_; rintro e w84 ⟨rfl, hR⟩; refine ⟨_, rfl, ?_⟩; replace HM := HM.call hR; clear hR; obtain ⟨hcz92_0, hcz92_1, hcz92_2, hfz92_0, hfz92_1, hfz92_2⟩ := bk3 (HM.bx 18 rfl); obtain ⟨hcz93_0, hcz93_1, hcz93_2, hfz93_0, hfz93_1, hfz93_2⟩ := bk3 (HM.bx 9 rfl)) | ((with_reducible refine gate_callee (f := 13) rfl ?_); refine pC (some 55) rfl #[.agg #[.bool t934, .string t935, .string t936], .agg #[.bool t902, .string t903, .string t904]] rfl Try.func13 (laws_eqReply.calls t934 t935 t936 t902 t903 t904 true _ A94.out) ?_; rintro e w95 ⟨rfl, hR⟩; refine ⟨_, rfl, ?_⟩; replace HM := HM.call hR; clear hR))
      go_meet
      case rel => exact ⟨_, ((t937 != t905)), RS, H', ⟨by first | omega | exact Nat.le_refl _⟩, (MD HM).pick [5, 6, 7, 10, 11, 12, 14, 15, 16, 0, 1, 8, 9, 13, 17, 18]⟩
     ·subst c96
      have H' := Aside0.mk H
      clear H
      obtain ⟨hcz81_0, hcz81_1, hcz81_2, hcz81_3, hcz81_4, hfz81_0, hfz81_1, hfz81_2, hfz81_3, hfz81_4⟩ := bk5 (HM.bx 17 rfl)
      obtain ⟨hcz82_0, hcz82_1, hcz82_2, hcz82_3, hcz82_4, hfz82_0, hfz82_1, hfz82_2, hfz82_3, hfz82_4⟩ := bk5 (HM.bx 8 rfl)
      obtain ⟨Xo85, ko85, eo85⟩ := HM.rdR 14 rfl
      subst eo85
      obtain ⟨Xo86, ko86, eo86⟩ := HM.rdR 15 rfl
      subst eo86
      obtain ⟨Xo87, ko87, eo87⟩ := HM.rdR 16 rfl
      subst eo87
      obtain ⟨Xo88, ko88, eo88⟩ := HM.rdR 5 rfl
      subst eo88
      obtain ⟨Xo89, ko89, eo89⟩ := HM.rdR 6 rfl
      subst eo89
      obtain ⟨Xo90, ko90, eo90⟩ := HM.rd 7 rfl
      subst eo90
      go_wp2_with (first | ((with_reducible refine gate_callee (f := 12) rfl ?_); refine pC (some 50) rfl #[.agg #[.int .i64 t923, .int .i64 t924, .slice Xo85 t925.length ko85, .slice Xo86 t928.length ko86, .slice Xo87 t931.length ko87], .agg #[.int .i64 t891, .int .i64 t892, .slice Xo88 t893.length ko88, .slice Xo89 t896.length ko89, .slice Xo90 t899.length ko90]] rfl Try.func12 (laws_eqThree.calls k t923 t924 _ _ t925 _ _ t928 _ _ t931 t891 t892 _ _ t893 _ _ t896 _ _ t899 true _ (HM.CR 14 rfl).2.2 (HM.CR 14 rfl).2.1 (HM.CR 15 rfl).2.2 (HM.CR 15 rfl).2.1 (HM.CR 16 rfl).2.2 (HM.CR 16 rfl).2.1 (HM.CR 5 rfl).2.2 (HM.CR 5 rfl).2.1 (HM.CR 6 rfl).2.2 (HM.CR 6 rfl).2.1 (HM.C 7 rfl).2.2 (HM.C 7 rfl).2.1 A83.out) ?_; rintro e w84 ⟨rfl, hR⟩; refine ⟨_, rfl, ?_⟩; replace HM := HM.call hR; clear hR; obtain ⟨hcz92_0, hcz92_1, hcz92_2, hfz92_0, hfz92_1, hfz92_2⟩ := bk3 (HM.bx 18 rfl); obtain ⟨hcz93_0, hcz93_1, hcz93_2, hfz93_0, hfz93_1, hfz93_2⟩ := bk3 (HM.bx 9 rfl)) | ((with_reducible refine gate_callee (f := 13) rfl ?_); refine pC (some 55) rfl #[.agg #[.bool t934, .string t935, .string t936], .agg #[.bool t902, .string t903, .string t904]] rfl Try.func13 (laws_eqReply.calls t934 t935 t936 t902 t903 t904 false _ A94.out) ?_; rintro e w95 ⟨rfl, hR⟩; refine ⟨_, rfl, ?_⟩; replace HM := HM.call hR; clear hR))
      go_meet
      case rel => exact ⟨_, (true), RS, H', ⟨by first | omega | exact Nat.le_refl _⟩, (MD HM).pick [5, 6, 7, 10, 11, 12, 14, 15, 16, 0, 1, 8, 9, 13, 17, 18]⟩
    ·subst c91
     have H' := Aside0.mk H
     clear H
     obtain ⟨hcz81_0, hcz81_1, hcz81_2, hcz81_3, hcz81_4, hfz81_0, hfz81_1, hfz81_2, hfz81_3, hfz81_4⟩ := bk5 (HM.bx 17 rfl)
     obtain ⟨hcz82_0, hcz82_1, hcz82_2, hcz82_3, hcz82_4, hfz82_0, hfz82_1, hfz82_2, hfz82_3, hfz82_4⟩ := bk5 (HM.bx 8 rfl)
     obtain ⟨Xo85, ko85, eo85⟩ := HM.rdR 14 rfl
     subst eo85
     obtain ⟨Xo86, ko86, eo86⟩ := HM.rdR 15 rfl
     subst eo86
     obtain ⟨Xo87, ko87, eo87⟩ := HM.rdR 16 rfl
     subst eo87
     obtain ⟨Xo88, ko88, eo88⟩ := HM.rdR 5 rfl
     subst eo88
     obtain ⟨Xo89, ko89, eo89⟩ := HM.rdR 6 rfl
     subst eo89
     obtain ⟨Xo90, ko90, eo90⟩ := HM.rd 7 rfl
     subst eo90
     go_wp2_with (first | ((with_reducible refine gate_callee (f := 12) rfl ?_); refine pC (some 50) rfl #[.agg #[.int .i64 t923, .int .i64 t924, .slice Xo85 t925.length ko85, .slice Xo86 t928.length ko86, .slice Xo87 t931.length ko87], .agg #[.int .i64 t891, .int .i64 t892, .slice Xo88 t893.length ko88, .slice Xo89 t896.length ko89, .slice Xo90 t899.length ko90]] rfl Try.func12 (laws_eqThree.calls k t923 t924 _ _ t925 _ _ t928 _ _ t931 t891 t892 _ _ t893 _ _ t896 _ _ t899 false _ (HM.CR 14 rfl).2.2 (HM.CR 14 rfl).2.1 (HM.CR 15 rfl).2.2 (HM.CR 15 rfl).2.1 (HM.CR 16 rfl).2.2 (HM.CR 16 rfl).2.1 (HM.CR 5 rfl).2.2 (HM.CR 5 rfl).2.1 (HM.CR 6 rfl).2.2 (HM.CR 6 rfl).2.1 (HM.C 7 rfl).2.2 (HM.C 7 rfl).2.1 A83.out) ?_; rintro e w84 ⟨rfl, hR⟩; refine ⟨_, rfl, ?_⟩; replace HM := HM.call hR; clear hR))
     go_meet
     case rel => exact ⟨_, (true), RS, H', ⟨by first | omega | exact Nat.le_refl _⟩, (MD HM).pick [5, 6, 7, 10, 11, 12, 14, 15, 16, 0, 1, 8, 9, 13, 17, 18]⟩
   case rest =>
    clear HC80 HM
    obtain ⟨kq, x62_79, rfl, HA, HJ79, HM⟩ := hcut
    cases kq with
    | zero => exact absurd HA.out (by simp [laws_FnExactOpDo.j0])
    | succ kj79 =>
     have H := HA.out
     clear HA
     simp only [laws_FnExactOpDo.j0] at H
     replace H := GN H
     obtain ⟨c97, H⟩ := H
     replace c97 := Bool.eq_false_iff.mpr c97
     subst c97
     try go_wp2
     replace H := BN H; obtain ⟨⟨t942, t943, t944, t947, t950⟩, A98, H⟩ := H
     replace H := BN H; obtain ⟨t953, A99, H⟩ := H
     refine RGN 5 [0, 1, 2, 3, 4] (fun a0 b a w' => ∃ (v945 : Value) (v948 : Value) (v951 : Value), a = putSel a0 b [(0, 63, .agg #[.int .i64 t908, .int .i64 t909, .slice Xo51 t910.length ko51, .slice Xo52 t913.length ko52, .slice Xo53 t916.length ko53]), (1, 64, .agg #[.int .i64 a0_0, .int .i64 a0_1, .slice A0_2 l0_2.length c0_2, .slice A0_3 l0_3.length c0_3, .slice A0_4 l0_4.length c0_4]), (2, 65, .agg #[.int .i64 t942, .int .i64 t943, v945, v948, v951]), (3, 66, .bool t953), (4, 67, .bool (!t953))] ∧ Mem w [] w' [rowR k95 95 v894 t893, rowR k95 95 v897 t896, row (Kd.int .i64) 3 v900 t899, rowR k95 95 (.slice Xo51 t910.length ko51) t910, rowR k95 95 (.slice Xo52 t913.length ko52) t913, rowR (Kd.int .i64) 3 (.slice Xo53 t916.length ko53) t916, rowR k95 95 v926 t925, rowR k95 95 v929 t928, rowR (Kd.int .i64) 3 v932 t931, box 25 gb873 [.int .i64 a0_0, .int .i64 a0_1, .slice A0_2 l0_2.length c0_2, .slice A0_3 l0_3.length c0_3, .slice A0_4 l0_4.length c0_4], box 27 gb874 [.int .i64 a1_0, .string a1_1, .string a1_2], box 32 gb906 [.int .i64 t891, .int .i64 t892, v894, v897, v900], box 34 gb907 [.bool t902, .string t903, .string t904], box 32 gb919 [.int .i64 t908, .int .i64 t909, .slice Xo51 t910.length ko51, .slice Xo52 t913.length ko52, .slice Xo53 t916.length ko53], box 32 gb938 [.int .i64 t923, .int .i64 t924, v926, v929, v932], box 34 gb939 [.bool t934, .string t935, .string t936], sel (b 2) (rowR k95 95 v945 t944) (emp), sel (b 2) (rowR k95 95 v948 t947) (emp), sel (b 2) (rowR (Kd.int .i64) 3 v951 t950) (emp)]) laws_FnExactOpDo.tab13 laws_FnExactOpDo.bits13 ?_ ?_ ?_
     ·exact ⟨.bool false, .bool false, .bool false, PS0' rfl _, (HM.drew.ems 3).pick [0, 1, 2, 3, 4, 5, 6, 7, 8, 9, 10, 11, 12, 13, 14, 15, 16, 17, 18]⟩
     ·clear HM
      refine steps_cons ?_ ?_
      ·rintro b a w ⟨v945, v948, v951, ha, HM⟩ hb hon hoff
       refine ⟨_, rfl, fun K hK => ?_⟩
       obtain ⟨hcz107_0, hcz107_1, hcz107_2, hcz107_3, hcz107_4, hfz107_0, hfz107_1, hfz107_2, hfz107_3, hfz107_4⟩ := bk5 (HM.bx 13 rfl)
       have e9 := POF ha 9
       replace ha := Aside0.mk ha
       exact VL (.agg #[.int .i64 t908, .int .i64 t909, .slice Xo51 t910.length ko51, .slice Xo52 t913.length ko52, .slice Xo53 t916.length ko53]) (hK.out _ _ ⟨v945, v948, v951, PUT ha 0 hb, HM⟩)
      refine steps_cons ?_ ?_
      ·rintro b a w ⟨v945, v948, v951, ha, HM⟩ hb hon hoff
       refine ⟨_, rfl, fun K hK => ?_⟩
       obtain ⟨hcz108_0, hcz108_1, hcz108_2, hcz108_3, hcz108_4, hfz108_0, hfz108_1, hfz108_2, hfz108_3, hfz108_4⟩ := bk5 (HM.bx 9 rfl)
       have e2 := POF ha 2
       replace ha := Aside0.mk ha
       exact VL (.agg #[.int .i64 a0_0, .int .i64 a0_1, .slice A0_2 l0_2.length c0_2, .slice A0_3 l0_3.length c0_3, .slice A0_4 l0_4.length c0_4]) (hK.out _ _ ⟨v945, v948, v951, PUT ha 1 hb, HM⟩)
      refine steps_cons ?_ ?_
      ·rintro b a w ⟨v945, v948, v951, ha, HM⟩ hb hon hoff
       refine ⟨_, rfl, fun K hK => ?_⟩
       have e64 := PON ha 1 (hon 1 (by kernel_rfl))
       replace ha := Aside0.mk ha
       refine ST (eC (some 65) rfl #[.agg #[.int .i64 a0_0, .int .i64 a0_1, .slice A0_2 l0_2.length c0_2, .slice A0_3 l0_3.length c0_3, .slice A0_4 l0_4.length c0_4]] rfl Try.func9 (laws_toThree.calls kj79 a0_0 a0_1 _ _ l0_2 _ _ l0_3 _ _ l0_4 t942 t943 t944 t947 t950 _ (HM.came HR0_2.out) HC0_2.out (HM.came HR0_3.out) HC0_3.out (HM.came HR0_4.out) HC0_4.out A98.out) ?_ (hargs := by (simp only [List.map_toArray, List.map_cons, List.map_nil, evc, eval_of e64]) <;> rfl))
       rintro e w109 ⟨v945, v948, v951, rfl, hR⟩
       refine ⟨_, rfl, ?_⟩
       replace HM := HM.call hR
       clear hR
       exact hK.out _ _ ⟨v945, v948, v951, PUT ha 2 hb, (HM).pick [0, 1, 2, 3, 4, 5, 6, 7, 8, 9, 10, 11, 12, 13, 14, 15, 19, 20, 21]⟩
      refine steps_cons ?_ ?_
      ·rintro b a w ⟨v945, v948, v951, ha, HM⟩ hb hon hoff
       refine ⟨_, rfl, fun K hK => ?_⟩
       replace HM := HM.sT 16 rfl (hon 2 (by kernel_rfl))
       replace HM := HM.sT 17 rfl (hon 2 (by kernel_rfl))
       replace HM := HM.sT 18 rfl (hon 2 (by kernel_rfl))
       obtain ⟨Xo111, ko111, eo111⟩ := HM.rdR 16 rfl
       subst eo111
       obtain ⟨Xo112, ko112, eo112⟩ := HM.rdR 17 rfl
       subst eo112
       obtain ⟨Xo113, ko113, eo113⟩ := HM.rdR 18 rfl
       subst eo113
       have e63 := PON ha 0 (hon 0 (by kernel_rfl))
       have e65 := PON ha 2 (hon 2 (by kernel_rfl))
       replace ha := Aside0.mk ha
       refine ST (eC (some 66) rfl #[.agg #[.int .i64 t908, .int .i64 t909, .slice Xo51 t910.length ko51, .slice Xo52 t913.length ko52, .slice Xo53 t916.length ko53], .agg #[.int .i64 t942, .int .i64 t943, .slice Xo111 t944.length ko111, .slice Xo112 t947.length ko112, .slice Xo113 t950.length ko113]] rfl Try.func12 (laws_eqThree.calls kj79 t908 t909 _ _ t910 _ _ t913 _ _ t916 t942 t943 _ _ t944 _ _ t947 _ _ t950 t953 _ (HM.CR 3 rfl).2.2 (HM.CR 3 rfl).2.1 (HM.CR 4 rfl).2.2 (HM.CR 4 rfl).2.1 (HM.CR 5 rfl).2.2 (HM.CR 5 rfl).2.1 (HM.CR 16 rfl).2.2 (HM.CR 16 rfl).2.1 (HM.CR 17 rfl).2.2 (HM.CR 17 rfl).2.1 (HM.CR 18 rfl).2.2 (HM.CR 18 rfl).2.1 A99.out) ?_ (hargs := by (simp only [List.map_toArray, List.map_cons, List.map_nil, evc, eval_of e63, eval_of e65]) <;> rfl))
       rintro e w110 ⟨rfl, hR⟩
       refine ⟨_, rfl, ?_⟩
       replace HM := HM.call hR
       clear hR
       exact hK.out _ _ ⟨.slice Xo111 t944.length ko111, .slice Xo112 t947.length ko112, .slice Xo113 t950.length ko113, PUT ha 3 hb, (((HM.iT 16 rfl (hon 2 (by kernel_rfl))).iT 17 rfl (hon 2 (by kernel_rfl))).iT 18 rfl (hon 2 (by kernel_rfl))).pick [0, 1, 2, 3, 4, 5, 6, 7, 8, 9, 10, 11, 12, 13, 14, 15, 16, 17, 18]⟩
      refine steps_cons ?_ ?_
      ·rintro b a w ⟨v945, v948, v951, ha, HM⟩ hb hon hoff
       refine ⟨_, rfl, fun K hK => ?_⟩
       have e66 := PON ha 3 (hon 3 (by kernel_rfl))
       replace ha := Aside0.mk ha
       exact VL (.bool (!t953)) (hK.out _ _ ⟨v945, v948, v951, PUT ha 4 hb, HM⟩)
      exact steps_nil
     rintro _ w114 ⟨v945, v948, v951, rfl, HM⟩
     replace HM := HM.sT 16 rfl rfl
     replace HM := HM.sT 17 rfl rfl
     replace HM := HM.sT 18 rfl rfl
     simp only [putSel, if_true, Act.put, List.setIfInBounds_toArray, List.set_cons_zero, List.set_cons_succ, gt_iff_lt, ge_iff_le]
     replace H := GD H
     obtain ⟨c115, H⟩ := H
     subst c115
     replace H := BN H; obtain ⟨⟨t954, t955, t956, t957⟩, A117, H⟩ := H
     have HC119 := Aside0.mk H
     clear H
     obtain ⟨hcz116_0, hcz116_1, hcz116_2, hcz116_3, hcz116_4, hfz116_0, hfz116_1, hfz116_2, hfz116_3, hfz116_4⟩ := bk5 (HM.bx 13 rfl)
     go_upto_region 17 with (first | ((with_reducible refine gate_callee (f := 14) rfl ?_); refine pC (some 70) rfl #[.agg #[.int .i64 t908, .int .i64 t909, .slice Xo51 t910.length ko51, .slice Xo52 t913.length ko52, .slice Xo53 t916.length ko53], .int .i64 1] rfl Try.func14 (laws_markThree.calls kj79 t908 t909 (.slice Xo51 t910.length ko51) t910 (.slice Xo52 t913.length ko52) t913 (.slice Xo53 t916.length ko53) t916 1 t954 t955 t956 t957 _ _ _ (HM.focus [0, 1, 2, 6, 7, 8, 9, 10, 11, 12, 13, 14, 15, 16, 17, 18] [3, 4, 5]) A117.out) ?_; rintro e w118 ⟨rfl, hR⟩; refine ⟨_, rfl, ?_⟩; replace HM := nzM hR.unfocus; clear hR))
     go_cut [89] (fun v89 wc => ∃ (kq : Nat) (x89_118 : Bool), v89 = .bool x89_118 ∧ Aside0 (laws_FnExactOpDo.j1 kq t905 x89_118 a0_0 a0_1 l0_2 l0_3 l0_4 a1_0 a1_1 a1_2 t891 t892 t893 t896 t899 t902 t903 t904 t923 t924 t925 t928 t931 = some r) ∧ Aside0 (kq ≤ kj79) ∧ Mem w [] wc [rowR k95 95 v894 t893, rowR k95 95 v897 t896, row (Kd.int .i64) 3 v900 t899, rowR k95 95 v926 t925, rowR k95 95 v929 t928, rowR (Kd.int .i64) 3 v932 t931, box 25 gb873 [.int .i64 a0_0, .int .i64 a0_1, .slice A0_2 l0_2.length c0_2, .slice A0_3 l0_3.length c0_3, .slice A0_4 l0_4.length c0_4], box 27 gb874 [.int .i64 a1_0, .string a1_1, .string a1_2], box 32 gb906 [.int .i64 t891, .int .i64 t892, v894, v897, v900], box 34 gb907 [.bool t902, .string t903, .string t904], box 32 gb938 [.int .i64 t923, .int .i64 t924, v926, v929, v932]])
     case first =>
      have H := HC119.out
      clear HC119
      replace H := IT H; rcases H with ⟨c120, H⟩ | ⟨c120, H⟩
      ·have c120b0 : decide (t954 < 0) = true := decide_eq_true c120
       clear c120
       have H' := Aside0.mk H
       clear H
       go_wp2
       go_meet
       case rel => exact ⟨_, (true), RS, H', ⟨laws_FnExactOpDo.z1⟩, (MD HM).pick [0, 1, 2, 3, 4, 5, 6, 7, 8, 9, 11]⟩
      ·have c120b0 : decide (t954 < 0) = false := decide_eq_false c120
       clear c120
       replace H := BN H; obtain ⟨t958, A123, H⟩ := H
       replace H := IB H
       rcases H with ⟨c131, H⟩ | ⟨c131, H⟩
       ·subst c131
        replace H := BN H; obtain ⟨t959, A134, H⟩ := H
        replace H := IB H
        rcases H with ⟨c136, H⟩ | ⟨c136, H⟩
        ·subst c136
         have H' := Aside0.mk H
         clear H
         obtain ⟨hcz121_0, hcz121_1, hcz121_2, hcz121_3, hcz121_4, hfz121_0, hfz121_1, hfz121_2, hfz121_3, hfz121_4⟩ := bk5 (HM.bx 11 rfl)
         obtain ⟨hcz122_0, hcz122_1, hcz122_2, hcz122_3, hcz122_4, hfz122_0, hfz122_1, hfz122_2, hfz122_3, hfz122_4⟩ := bk5 (HM.bx 8 rfl)
         obtain ⟨Xo125, ko125, eo125⟩ := HM.rdR 3 rfl
         subst eo125
         obtain ⟨Xo126, ko126, eo126⟩ := HM.rdR 4 rfl
         subst eo126
         obtain ⟨Xo127, ko127, eo127⟩ := HM.rdR 5 rfl
         subst eo127
         obtain ⟨Xo128, ko128, eo128⟩ := HM.rdR 0 rfl
         subst eo128
         obtain ⟨Xo129, ko129, eo129⟩ := HM.rdR 1 rfl
         subst eo129
         obtain ⟨Xo130, ko130, eo130⟩ := HM.rd 2 rfl
         subst eo130
         go_wp2_with (first | ((with_reducible refine gate_callee (f := 12) rfl ?_); refine pC (some 76) rfl #[.agg #[.int .i64 t923, .int .i64 t924, .slice Xo125 t925.length ko125, .slice Xo126 t928.length ko126, .slice Xo127 t931.length ko127], .agg #[.int .i64 t891, .int .i64 t892, .slice Xo128 t893.length ko128, .slice Xo129 t896.length ko129, .slice Xo130 t899.length ko130]] rfl Try.func12 (laws_eqThree.calls kj79 t923 t924 _ _ t925 _ _ t928 _ _ t931 t891 t892 _ _ t893 _ _ t896 _ _ t899 true _ (HM.CR 3 rfl).2.2 (HM.CR 3 rfl).2.1 (HM.CR 4 rfl).2.2 (HM.CR 4 rfl).2.1 (HM.CR 5 rfl).2.2 (HM.CR 5 rfl).2.1 (HM.CR 0 rfl).2.2 (HM.CR 0 rfl).2.1 (HM.CR 1 rfl).2.2 (HM.CR 1 rfl).2.1 (HM.C 2 rfl).2.2 (HM.C 2 rfl).2.1 A123.out) ?_; rintro e w124 ⟨rfl, hR⟩; refine ⟨_, rfl, ?_⟩; replace HM := HM.call hR; clear hR; obtain ⟨hcz132_0, hcz132_1, hcz132_2, hfz132_0, hfz132_1, hfz132_2⟩ := bk3 (HM.bx 12 rfl); obtain ⟨hcz133_0, hcz133_1, hcz133_2, hfz133_0, hfz133_1, hfz133_2⟩ := bk3 (HM.bx 9 rfl)) | ((with_reducible refine gate_callee (f := 13) rfl ?_); refine pC (some 82) rfl #[.agg #[.bool t934, .string t935, .string t936], .agg #[.bool t902, .string t903, .string t904]] rfl Try.func13 (laws_eqReply.calls t934 t935 t936 t902 t903 t904 true _ A134.out) ?_; rintro e w135 ⟨rfl, hR⟩; refine ⟨_, rfl, ?_⟩; replace HM := HM.call hR; clear hR))
         go_meet
         case rel => exact ⟨_, ((t937 != t905)), RS, H', ⟨laws_FnExactOpDo.z1⟩, (MD HM).pick [0, 1, 2, 3, 4, 5, 6, 7, 8, 9, 11]⟩
        ·subst c136
         have H' := Aside0.mk H
         clear H
         obtain ⟨hcz121_0, hcz121_1, hcz121_2, hcz121_3, hcz121_4, hfz121_0, hfz121_1, hfz121_2, hfz121_3, hfz121_4⟩ := bk5 (HM.bx 11 rfl)
         obtain ⟨hcz122_0, hcz122_1, hcz122_2, hcz122_3, hcz122_4, hfz122_0, hfz122_1, hfz122_2, hfz122_3, hfz122_4⟩ := bk5 (HM.bx 8 rfl)
         obtain ⟨Xo125, ko125, eo125⟩ := HM.rdR 3 rfl
         subst eo125
         obtain ⟨Xo126, ko126, eo126⟩ := HM.rdR 4 rfl
         subst eo126
         obtain ⟨Xo127, ko127, eo127⟩ := HM.rdR 5 rfl
         subst eo127
         obtain ⟨Xo128, ko128, eo128⟩ := HM.rdR 0 rfl
         subst eo128
         obtain ⟨Xo129, ko129, eo129⟩ := HM.rdR 1 rfl
         subst eo129
         obtain ⟨Xo130, ko130, eo130⟩ := HM.rd 2 rfl
         subst eo130
         go_wp2_with (first | ((with_reducible refine gate_callee (f := 12) rfl ?_); refine pC (some 76) rfl #[.agg #[.int .i64 t923, .int .i64 t924, .slice Xo125 t925.length ko125, .slice Xo126 t928.length ko126, .slice Xo127 t931.length ko127], .agg #[.int .i64 t891, .int .i64 t892, .slice Xo128 t893.length ko128, .slice Xo129 t896.length ko129, .slice Xo130 t899.length ko130]] rfl Try.func12 (laws_eqThree.calls kj79 t923 t924 _ _ t925 _ _ t928 _ _ t931 t891 t892 _ _ t893 _ _ t896 _ _ t899 true _ (HM.CR 3 rfl).2.2 (HM.CR 3 rfl).2.1 (HM.CR 4 rfl).2.2 (HM.CR 4 rfl).2.1 (HM.CR 5 rfl).2.2 (HM.CR 5 rfl).2.1 (HM.CR 0 rfl).2.2 (HM.CR 0 rfl).2.1 (HM.CR 1 rfl).2.2 (HM.CR 1 rfl).2.1 (HM.C 2 rfl).2.2 (HM.C 2 rfl).2.1 A123.out) ?_; rintro e w124 ⟨rfl, hR⟩; refine ⟨_, rfl, ?_⟩; replace HM := HM.call hR; clear hR; obtain ⟨hcz132_0, hcz132_1, hcz132_2, hfz132_0, hfz132_1, hfz132_2⟩ := bk3 (HM.bx 12 rfl); obtain ⟨hcz133_0, hcz133_1, hcz133_2, hfz133_0, hfz133_1, hfz133_2⟩ := bk3 (HM.bx 9 rfl)) | ((with_reducible refine gate_callee (f := 13) rfl ?_); refine pC (some 82) rfl #[.agg #[.bool t934, .string t935, .string t936], .agg #[.bool t902, .string t903, .string t904]] rfl Try.func13 (laws_eqReply.calls t934 t935 t936 t902 t903 t904 false _ A134.out) ?_; rintro e w135 ⟨rfl, hR⟩; refine ⟨_, rfl, ?_⟩; replace HM := HM.call hR; clear hR))
         go_meet
         case rel => exact ⟨_, (true), RS, H', ⟨laws_FnExactOpDo.z1⟩, (MD HM).pick [0, 1, 2, 3, 4, 5, 6, 7, 8, 9, 11]⟩
       ·subst c131
        have H' := Aside0.mk H
        clear H
        obtain ⟨hcz121_0, hcz121_1, hcz121_2, hcz121_3, hcz121_4, hfz121_0, hfz121_1, hfz121_2, hfz121_3, hfz121_4⟩ := bk5 (HM.bx 11 rfl)
        obtain ⟨hcz122_0, hcz122_1, hcz122_2, hcz122_3, hcz122_4, hfz122_0, hfz122_1, hfz122_2, hfz122_3, hfz122_4⟩ := bk5 (HM.bx 8 rfl)
        obtain ⟨Xo125, ko125, eo125⟩ := HM.rdR 3 rfl
        subst eo125
        obtain ⟨Xo126, ko126, eo126⟩ := HM.rdR 4 rfl
        subst eo126
        obtain ⟨Xo127, ko127, eo127⟩ := HM.rdR 5 rfl
        subst eo127
        obtain ⟨Xo128, ko128, eo128⟩ := HM.rdR 0 rfl
        subst eo128
        obtain ⟨Xo129, ko129, eo129⟩ := HM.rdR 1 rfl
        subst eo129
        obtain ⟨Xo130, ko130, eo130⟩ := HM.rd 2 rfl
        subst eo130
        go_wp2_with (first | ((with_reducible refine gate_callee (f := 12) rfl ?_); refine pC (some 76) rfl #[.agg #[.int .i64 t923, .int .i64 t924, .slice Xo125 t925.length ko125, .slice Xo126 t928.length ko126, .slice Xo127 t931.length ko127], .agg #[.int .i64 t891, .int .i64 t892, .slice Xo128 t893.length ko128, .slice Xo129 t896.length ko129, .slice Xo130 t899.length ko130]] rfl Try.func12 (laws_eqThree.calls kj79 t923 t924 _ _ t925 _ _ t928 _ _ t931 t891 t892 _ _ t893 _ _ t896 _ _ t899 false _ (HM.CR 3 rfl).2.2 (HM.CR 3 rfl).2.1 (HM.CR 4 rfl).2.2 (HM.CR 4 rfl).2.1 (HM.CR 5 rfl).2.2 (HM.CR 5 rfl).2.1 (HM.CR 0 rfl).2.2 (HM.CR 0 rfl).2.1 (HM.CR 1 rfl).2.2 (HM.CR 1 rfl).2.1 (HM.C 2 rfl).2.2 (HM.C 2 rfl).2.1 A123.out) ?_; rintro e w124 ⟨rfl, hR⟩; refine ⟨_, rfl, ?_⟩; replace HM := HM.call hR; clear hR))
        go_meet
        case rel => exact ⟨_, (true), RS, H', ⟨laws_FnExactOpDo.z1⟩, (MD HM).pick [0, 1, 2, 3, 4, 5, 6, 7, 8, 9, 11]⟩
     case rest =>
      clear HC119 HM
      obtain ⟨kq, x89_118, rfl, HA, HJ118, HM⟩ := hcut
      cases kq with
      | zero => exact absurd HA.out (by simp [laws_FnExactOpDo.j1])
      | succ kj118 =>
       have H := HA.out
       clear HA
       simp only [laws_FnExactOpDo.j1] at H
       replace H := GN H
       obtain ⟨c137, H⟩ := H
       replace c137 := Bool.eq_false_iff.mpr c137
       subst c137
       replace H := BN H; obtain ⟨⟨t960, t961, t962, t963⟩, A139, H⟩ := H
       replace H := BN H; obtain ⟨t964, A142, H⟩ := H
       replace H := GN H; obtain ⟨c147, H⟩ := H
       have c147b0 : decide (t964 < 0) = false := decide_eq_false c147
       clear c147
       replace H := GD H; obtain ⟨c148, H⟩ := H
       have c148b0 : (t964 == t960) = true := beq_iff_eq.mpr c148
       have c148b1 : (t964 != t960) = false := bne_eq_false_iff_eq.mpr c148
       clear c148
       obtain ⟨hcz138_0, hcz138_1, hcz138_2, hcz138_3, hcz138_4, hfz138_0, hfz138_1, hfz138_2, hfz138_3, hfz138_4⟩ := bk5 (HM.bx 10 rfl)
       try go_wp2_with (first | ((with_reducible refine gate_callee (f := 14) rfl ?_); refine pC (some 92) rfl #[.agg #[.int .i64 t923, .int .i64 t924, v926, v929, v932], .int .i64 1] rfl Try.func14 (laws_markThree.calls kj118 t923 t924 v926 t925 v929 t928 v932 t931 1 t960 t961 t962 t963 _ _ _ (HM.focus [0, 1, 2, 6, 7, 8, 9, 10] [3, 4, 5]) A139.out) ?_; rintro e w140 ⟨rfl, hR⟩; refine ⟨_, rfl, ?_⟩; replace HM := nzM hR.unfocus; clear hR; obtain ⟨hcz141_0, hcz141_1, hcz141_2, hcz141_3, hcz141_4, hfz141_0, hfz141_1, hfz141_2, hfz141_3, hfz141_4⟩ := bk5 (HM.bx 7 rfl); obtain ⟨Xo144, ko144, eo144⟩ := HM.rdR 8 rfl; subst eo144; obtain ⟨Xo145, ko145, eo145⟩ := HM.rdR 9 rfl; subst eo145; obtain ⟨Xo146, ko146, eo146⟩ := HM.rdR 10 rfl; subst eo146) | ((with_reducible refine gate_callee (f := 15) rfl ?_); refine pC (some 95) rfl #[.agg #[.int .i64 t923, .int .i64 t924, .slice Xo144 t961.length ko144, .slice Xo145 t962.length ko145, .slice Xo146 t963.length ko146], .int .i64 1] rfl Try.func15 (laws_heldThree.calls kj118 t923 t924 _ _ t961 _ _ t962 _ _ t963 1 t964 _ (HM.CR 8 rfl).2.2 (HM.CR 8 rfl).2.1 (HM.CR 9 rfl).2.2 (HM.CR 9 rfl).2.1 (HM.CR 10 rfl).2.2 (HM.CR 10 rfl).2.1 A142.out) ?_; rintro e w143 ⟨rfl, hR⟩; refine ⟨_, rfl, ?_⟩; replace HM := HM.call hR; clear hR))
       replace H := BN H; obtain ⟨⟨t965, t966, t967, t970, t973⟩, A149, H⟩ := H
       replace H := BN H; obtain ⟨⟨t976, t977, t978⟩, A150, H⟩ := H
       replace H := BN H; obtain ⟨⟨t979, t980, t981, t984, t987, t990, t991, t992, t993⟩, A151, H⟩ := H
       refine RGN 14 [0, 1, 2, 3, 4, 5, 6, 7, 8, 9, 10, 11, 12, 13] (fun a0 b a w' => ∃ (v968 : Value) (v971 : Value) (v974 : Value) (v982 : Value) (v985 : Value) (v988 : Value) (gb994 : Nat) (gb995 : Nat), a = putSel a0 b [(0, 102, .agg #[.int .i64 a0_0, .int .i64 a0_1, .slice A0_2 l0_2.length c0_2, .slice A0_3 l0_3.length c0_3, .slice A0_4 l0_4.length c0_4]), (1, 103, .agg #[.int .i64 t965, .int .i64 t966, v968, v971, v974]), (2, 104, .agg #[.int .i64 a1_0, .string a1_1, .string a1_2]), (3, 105, .agg #[.int .i64 t976, .string t977, .string t978]), (4, 106, .tuple #[.agg #[.int .i64 t979, .int .i64 t980, v982, v985, v988], .agg #[.bool t990, .string t991, .string t992], .bool t993]), (5, 101, .tuple #[.agg #[.int .i64 t979, .int .i64 t980, v982, v985, v988], .agg #[.bool t990, .string t991, .string t992], .bool t993]), (6, 107, .agg #[.int .i64 t979, .int .i64 t980, v982, v985, v988]), (7, 108, .agg #[.bool t990, .string t991, .string t992]), (8, 109, .bool t993), (9, 16, .pointer (some ⟨gb994, 0, none⟩)), (10, 17, .pointer (some ⟨gb995, 0, none⟩)), (13, 18, .bool t993)] ∧ Mem w [] w' [rowR k95 95 v894 t893, rowR k95 95 v897 t896, row (Kd.int .i64) 3 v900 t899, box 25 gb873 [.int .i64 a0_0, .int .i64 a0_1, .slice A0_2 l0_2.length c0_2, .slice A0_3 l0_3.length c0_3, .slice A0_4 l0_4.length c0_4], box 27 gb874 [.int .i64 a1_0, .string a1_1, .string a1_2], box 32 gb906 [.int .i64 t891, .int .i64 t892, v894, v897, v900], box 34 gb907 [.bool t902, .string t903, .string t904], box 32 gb938 [.int .i64 t923, .int .i64 t924, .slice Xo144 t961.length ko144, .slice Xo145 t962.length ko145, .slice Xo146 t963.length ko146], rowR k95 95 (.slice Xo144 t961.length ko144) t961, rowR k95 95 (.slice Xo145 t962.length ko145) t962, rowR (Kd.int .i64) 3 (.slice Xo146 t963.length ko146) t963, sel (b 1) (rowR k95 95 v968 t967) (emp), sel (b 1) (rowR k95 95 v971 t970) (emp), sel (b 1) (rowR (Kd.int .i64) 3 v974 t973) (emp), sel (b 4) (rowR k95 95 v982 t981) (emp), sel (b 4) (rowR k95 95 v985 t984) (emp), sel (b 4) (rowR (Kd.int .i64) 3 v988 t987) (emp), sel (b 11) (box 32 gb994 [.int .i64 t979, .int .i64 t980, v982, v985, v988]) (sel (b 9) (box 32 gb994 [.int .i64 0, .int .i64 0, .slice none 0 0, .slice none 0 0, .slice none 0 0]) (emp)), sel (b 12) (box 34 gb995 [.bool t990, .string t991, .string t992]) (sel (b 10) (box 34 gb995 [.bool false, .string (⟨#[]⟩ : ByteArray), .string (⟨#[]⟩ : ByteArray)]) (emp))]) laws_FnExactOpDo.tab27 laws_FnExactOpDo.bits27 ?_ ?_ ?_
       ·exact ⟨.bool false, .bool false, .bool false, .bool false, .bool false, .bool false, 0, 0, PS0' rfl _, (HM.drew.ems 8).pick [0, 1, 2, 3, 4, 5, 6, 7, 8, 9, 10, 11, 12, 13, 14, 15, 16, 17, 18]⟩
       ·clear HM
        refine steps_cons ?_ ?_
        ·rintro b a w ⟨v968, v971, v974, v982, v985, v988, gb994, gb995, ha, HM⟩ hb hon hoff
         refine ⟨_, rfl, fun K hK => ?_⟩
         obtain ⟨hcz167_0, hcz167_1, hcz167_2, hcz167_3, hcz167_4, hfz167_0, hfz167_1, hfz167_2, hfz167_3, hfz167_4⟩ := bk5 (HM.bx 3 rfl)
         have e2 := POF ha 2
         replace ha := Aside0.mk ha
         exact VL (.agg #[.int .i64 a0_0, .int .i64 a0_1, .slice A0_2 l0_2.length c0_2, .slice A0_3 l0_3.length c0_3, .slice A0_4 l0_4.length c0_4]) (hK.out _ _ ⟨v968, v971, v974, v982, v985, v988, gb994, gb995, PUT ha 0 hb, HM⟩)
        refine steps_cons ?_ ?_
        ·rintro b a w ⟨v968, v971, v974, v982, v985, v988, gb994, gb995, ha, HM⟩ hb hon hoff
         refine ⟨_, rfl, fun K hK => ?_⟩
         have e102 := PON ha 0 (hon 0 (by kernel_rfl))
         replace ha := Aside0.mk ha
         refine ST (eC (some 103) rfl #[.agg #[.int .i64 a0_0, .int .i64 a0_1, .slice A0_2 l0_2.length c0_2, .slice A0_3 l0_3.length c0_3, .slice A0_4 l0_4.length c0_4]] rfl Try.func9 (laws_toThree.calls kj118 a0_0 a0_1 _ _ l0_2 _ _ l0_3 _ _ l0_4 t965 t966 t967 t970 t973 _ (HM.came HR0_2.out) HC0_2.out (HM.came HR0_3.out) HC0_3.out (HM.came HR0_4.out) HC0_4.out A149.out) ?_ (hargs := by (simp only [List.map_toArray, List.map_cons, List.map_nil, evc, eval_of e102]) <;> rfl))
         rintro e w168 ⟨v968, v971, v974, rfl, hR⟩
         refine ⟨_, rfl, ?_⟩
         replace HM := HM.call hR
         clear hR
         exact hK.out _ _ ⟨v968, v971, v974, v982, v985, v988, gb994, gb995, PUT ha 1 hb, (HM).pick [0, 1, 2, 3, 4, 5, 6, 7, 8, 9, 10, 19, 20, 21, 14, 15, 16, 17, 18]⟩
        refine steps_cons ?_ ?_
        ·rintro b a w ⟨v968, v971, v974, v982, v985, v988, gb994, gb995, ha, HM⟩ hb hon hoff
         refine ⟨_, rfl, fun K hK => ?_⟩
         obtain ⟨hcz169_0, hcz169_1, hcz169_2, hfz169_0, hfz169_1, hfz169_2⟩ := bk3 (HM.bx 4 rfl)
         have e3 := POF ha 3
         replace ha := Aside0.mk ha
         exact VL (.agg #[.int .i64 a1_0, .string a1_1, .string a1_2]) (hK.out _ _ ⟨v968, v971, v974, v982, v985, v988, gb994, gb995, PUT ha 2 hb, HM⟩)
        refine steps_cons ?_ ?_
        ·rintro b a w ⟨v968, v971, v974, v982, v985, v988, gb994, gb995, ha, HM⟩ hb hon hoff
         refine ⟨_, rfl, fun K hK => ?_⟩
         have e104 := PON ha 2 (hon 2 (by kernel_rfl))
         replace ha := Aside0.mk ha
         refine ST (eC (some 105) rfl #[.agg #[.int .i64 a1_0, .string a1_1, .string a1_2]] rfl Try.func10 (laws_toOp.calls a1_0 a1_1 a1_2 t976 t977 t978 _ A150.out) ?_ (hargs := by (simp only [List.map_toArray, List.map_cons, List.map_nil, evc, eval_of e104]) <;> rfl))
         rintro e w170 ⟨rfl, hR⟩
         refine ⟨_, rfl, ?_⟩
         replace HM := HM.call hR
         clear hR
         exact hK.out _ _ ⟨v968, v971, v974, v982, v985, v988, gb994, gb995, PUT ha 3 hb, (HM).pick [0, 1, 2, 3, 4, 5, 6, 7, 8, 9, 10, 11, 12, 13, 14, 15, 16, 17, 18]⟩
        refine steps_cons ?_ ?_
        ·rintro b a w ⟨v968, v971, v974, v982, v985, v988, gb994, gb995, ha, HM⟩ hb hon hoff
         refine ⟨_, rfl, fun K hK => ?_⟩
         replace HM := HM.sT 11 rfl (hon 1 (by kernel_rfl))
         replace HM := HM.sT 12 rfl (hon 1 (by kernel_rfl))
         replace HM := HM.sT 13 rfl (hon 1 (by kernel_rfl))
         obtain ⟨Xo172, ko172, eo172⟩ := HM.rdR 11 rfl
         subst eo172
         obtain ⟨Xo173, ko173, eo173⟩ := HM.rdR 12 rfl
         subst eo173
         obtain ⟨Xo174, ko174, eo174⟩ := HM.rdR 13 rfl
         subst eo174
         have e103 := PON ha 1 (hon 1 (by kernel_rfl))
         have e105 := PON ha 3 (hon 3 (by kernel_rfl))
         replace ha := Aside0.mk ha
         refine ST (eC (some 106) rfl #[.agg #[.int .i64 t965, .int .i64 t966, .slice Xo172 t967.length ko172, .slice Xo173 t970.length ko173, .slice Xo174 t973.length ko174], .agg #[.int .i64 t976, .string t977, .string t978]] rfl Try.func11 (impl_OpDo.calls kj118 t965 t966 _ _ t967 _ _ t970 _ _ t973 t976 t977 t978 t979 t980 t981 t984 t987 t990 t991 t992 t993 _ (HM.CR 11 rfl).2.2 (HM.CR 11 rfl).2.1 (HM.CR 12 rfl).2.2 (HM.CR 12 rfl).2.1 (HM.CR 13 rfl).2.2 (HM.CR 13 rfl).2.1 A151.out) ?_ (hargs := by (simp only [List.map_toArray, List.map_cons, List.map_nil, evc, eval_of e103, eval_of e105]) <;> rfl))
         rintro e w171 ⟨v982, v985, v988, rfl, hR⟩
         refine ⟨_, rfl, ?_⟩
         replace HM := HM.call hR
         clear hR
         exact hK.out _ _ ⟨.slice Xo172 t967.length ko172, .slice Xo173 t970.length ko173, .slice Xo174 t973.length ko174, v982, v985, v988, gb994, gb995, PUT (PCH (PCH ha 5 (hoff 5 (by kernel_rfl))) 6 (hoff 6 (by kernel_rfl))) 4 hb, (((((HM.iT 11 rfl (hon 1 (by kernel_rfl))).iT 12 rfl (hon 1 (by kernel_rfl))).iT 13 rfl (hon 1 (by kernel_rfl))).sF 17 rfl (hoff 11 (by kernel_rfl))).iF 17 rfl (hoff 11 (by kernel_rfl))).pick [0, 1, 2, 3, 4, 5, 6, 7, 8, 9, 10, 11, 12, 13, 19, 20, 21, 17, 18]⟩
        refine steps_cons ?_ ?_
        ·rintro b a w ⟨v968, v971, v974, v982, v985, v988, gb994, gb995, ha, HM⟩ hb hon hoff
         refine ⟨_, rfl, fun K hK => ?_⟩
         have e106 := PON ha 4 (hon 4 (by kernel_rfl))
         replace ha := Aside0.mk ha
         exact VL (.tuple #[.agg #[.int .i64 t979, .int .i64 t980, v982, v985, v988], .agg #[.bool t990, .string t991, .string t992], .bool t993]) (hK.out _ _ ⟨v968, v971, v974, v982, v985, v988, gb994, gb995, PUT ha 5 hb, HM⟩)
        refine steps_cons ?_ ?_
        ·rintro b a w ⟨v968, v971, v974, v982, v985, v988, gb994, gb995, ha, HM⟩ hb hon hoff
         refine ⟨_, rfl, fun K hK => ?_⟩
         have e101 := PON ha 5 (hon 5 (by kernel_rfl))
         replace ha := Aside0.mk ha
         exact VL (.agg #[.int .i64 t979, .int .i64 t980, v982, v985, v988]) (hK.out _ _ ⟨v968, v971, v974, v982, v985, v988, gb994, gb995, PUT ha 6 hb, HM⟩)
        refine steps_cons ?_ ?_
        ·rintro b a w ⟨v968, v971, v974, v982, v985, v988, gb994, gb995, ha, HM⟩ hb hon hoff
         refine ⟨_, rfl, fun K hK => ?_⟩
         have e101 := PON ha 5 (hon 5 (by kernel_rfl))
         replace ha := Aside0.mk ha
         exact VL (.agg #[.bool t990, .string t991, .string t992]) (hK.out _ _ ⟨v968, v971, v974, v982, v985, v988, gb994, gb995, PUT ha 7 hb, HM⟩)
        refine steps_cons ?_ ?_
        ·rintro b a w ⟨v968, v971, v974, v982, v985, v988, gb994, gb995, ha, HM⟩ hb hon hoff
         refine ⟨_, rfl, fun K hK => ?_⟩
         have e101 := PON ha 5 (hon 5 (by kernel_rfl))
         replace ha := Aside0.mk ha
         exact VL (.bool t993) (hK.out _ _ ⟨v968, v971, v974, v982, v985, v988, gb994, gb995, PUT ha 8 hb, HM⟩)
        refine steps_cons ?_ ?_
        ·rintro b a w ⟨v968, v971, v974, v982, v985, v988, gb994, gb995, ha, HM⟩ hb hon hoff
         refine ⟨_, rfl, fun K hK => ?_⟩
         replace ha := Aside0.mk ha
         refine ST (eB 16 32 [.int .i64 0, .int .i64 0, .slice none 0 0, .slice none 0 0, .slice none 0 0] HM rfl ?_)
         clear HM
         intro gb994 w175 HM
         exact hK.out _ _ ⟨v968, v971, v974, v982, v985, v988, gb994, gb995, PUT ha 9 hb, (HM.iF 19 rfl (hoff 11 (by kernel_rfl))).pick [0, 1, 2, 3, 4, 5, 6, 7, 8, 9, 10, 11, 12, 13, 14, 15, 16, 19, 18]⟩
        refine steps_cons ?_ ?_
        ·rintro b a w ⟨v968, v971, v974, v982, v985, v988, gb994, gb995, ha, HM⟩ hb hon hoff
         refine ⟨_, rfl, fun K hK => ?_⟩
         replace ha := Aside0.mk ha
         refine ST (eB 17 34 [.bool false, .string (⟨#[]⟩ : ByteArray), .string (⟨#[]⟩ : ByteArray)] HM rfl ?_)
         clear HM
         intro gb995 w176 HM
         exact hK.out _ _ ⟨v968, v971, v974, v982, v985, v988, gb994, gb995, PUT ha 10 hb, (HM.iF 19 rfl (hoff 12 (by kernel_rfl))).pick [0, 1, 2, 3, 4, 5, 6, 7, 8, 9, 10, 11, 12, 13, 14, 15, 16, 17, 19]⟩
        refine steps_cons ?_ ?_
        ·rintro b a w ⟨v968, v971, v974, v982, v985, v988, gb994, gb995, ha, HM⟩ hb hon hoff
         refine ⟨_, rfl, fun K hK => ?_⟩
         replace HM := HM.sT 14 rfl (hon 4 (by kernel_rfl))
         replace HM := HM.sT 15 rfl (hon 4 (by kernel_rfl))
         replace HM := HM.sT 16 rfl (hon 4 (by kernel_rfl))
         replace HM := (HM.sF 17 rfl hb).sT 17 rfl (hon 9 (by kernel_rfl))
         obtain ⟨Xo177, ko177, eo177⟩ := HM.rdR 14 rfl
         subst eo177
         obtain ⟨Xo178, ko178, eo178⟩ := HM.rdR 15 rfl
         subst eo178
         obtain ⟨Xo179, ko179, eo179⟩ := HM.rdR 16 rfl
         subst eo179
         have e16 := PON ha 9 (hon 9 (by kernel_rfl))
         have e107 := PON ha 6 (hon 6 (by kernel_rfl))
         replace ha := Aside0.mk ha
         refine ST (eS 17 16 0 [.int .i64 t979, .int .i64 t980, .slice Xo177 t981.length ko177, .slice Xo178 t984.length ko178, .slice Xo179 t987.length ko179] HM rfl rfl ?_ (hp := (eval_of e16)) (hx := (by rw [eval_of e107]; rfl)))
         clear HM
         intro w180 HM
         exact hK.out _ _ ⟨v968, v971, v974, .slice Xo177 t981.length ko177, .slice Xo178 t984.length ko178, .slice Xo179 t987.length ko179, gb994, gb995, PUS ha, (((HM.iT 14 rfl (hon 4 (by kernel_rfl))).iT 15 rfl (hon 4 (by kernel_rfl))).iT 16 rfl (hon 4 (by kernel_rfl))).pick [0, 1, 2, 3, 4, 5, 6, 7, 8, 9, 10, 11, 12, 13, 14, 15, 16, 17, 18]⟩
        refine steps_cons ?_ ?_
        ·rintro b a w ⟨v968, v971, v974, v982, v985, v988, gb994, gb995, ha, HM⟩ hb hon hoff
         refine ⟨_, rfl, fun K hK => ?_⟩
         replace HM := (HM.sF 18 rfl hb).sT 18 rfl (hon 10 (by kernel_rfl))
         have e17 := PON ha 10 (hon 10 (by kernel_rfl))
         have e108 := PON ha 7 (hon 7 (by kernel_rfl))
         replace ha := Aside0.mk ha
         refine ST (eS 18 17 0 [.bool t990, .string t991, .string t992] HM rfl rfl ?_ (hp := (eval_of e17)) (hx := (by rw [eval_of e108]; rfl)))
         clear HM
         intro w181 HM
         exact hK.out _ _ ⟨v968, v971, v974, v982, v985, v988, gb994, gb995, PUS ha, (HM).pick [0, 1, 2, 3, 4, 5, 6, 7, 8, 9, 10, 11, 12, 13, 14, 15, 16, 17, 18]⟩
        refine steps_cons ?_ ?_
        ·rintro b a w ⟨v968, v971, v974, v982, v985, v988, gb994, gb995, ha, HM⟩ hb hon hoff
         refine ⟨_, rfl, fun K hK => ?_⟩
         have e109 := PON ha 8 (hon 8 (by kernel_rfl))
         replace ha := Aside0.mk ha
         exact VL (.bool t993) (hK.out _ _ ⟨v968, v971, v974, v982, v985, v988, gb994, gb995, PUT ha 11 hb, HM⟩)
        exact steps_nil
       rintro _ w182 ⟨v968, v971, v974, v982, v985, v988, gb994, gb995, rfl, HM⟩
       replace HM := HM.sT 11 rfl rfl
       replace HM := HM.sT 12 rfl rfl
       replace HM := HM.sT 13 rfl rfl
       replace HM := HM.sT 14 rfl rfl
       replace HM := HM.sT 15 rfl rfl
       replace HM := HM.sT 16 rfl rfl
       replace HM := HM.sT 17 rfl rfl
       replace HM := HM.sT 18 rfl rfl
       simp only [putSel, if_true, Act.put, List.setIfInBounds_toArray, List.set_cons_zero, List.set_cons_succ, gt_iff_lt, ge_iff_le]
       have HC183 := Aside0.mk H
       clear H
       go_upto_region 28 with (fail)
       go_cut [124] (fun v124 wc => ∃ (kq : Nat) (x124_182 : Bool), v124 = .bool x124_182 ∧ Aside0 (laws_FnExactOpDo.j2 kq t960 x124_182 t923 t924 t961 t962 t963 = some r) ∧ Aside0 (kq ≤ kj118) ∧ Mem w [] wc [rowR k95 95 (.slice Xo144 t961.length ko144) t961, rowR k95 95 (.slice Xo145 t962.length ko145) t962, rowR (Kd.int .i64) 3 (.slice Xo146 t963.length ko146) t963, box 32 gb938 [.int .i64 t923, .int .i64 t924, (.slice Xo144 t961.length ko144), (.slice Xo145 t962.length ko145), (.slice Xo146 t963.length ko146)]])
       case first =>
        have H := HC183.out
        clear HC183
        replace H := BN H; obtain ⟨t996, A186, H⟩ := H
        replace H := IB H
        rcases H with ⟨c194, H⟩ | ⟨c194, H⟩
        ·subst c194
         replace H := BN H; obtain ⟨t997, A197, H⟩ := H
         replace H := IB H
         rcases H with ⟨c199, H⟩ | ⟨c199, H⟩
         ·subst c199
          have H' := Aside0.mk H
          clear H
          obtain ⟨hcz184_0, hcz184_1, hcz184_2, hcz184_3, hcz184_4, hfz184_0, hfz184_1, hfz184_2, hfz184_3, hfz184_4⟩ := bk5 (HM.bx 17 rfl)
          obtain ⟨hcz185_0, hcz185_1, hcz185_2, hcz185_3, hcz185_4, hfz185_0, hfz185_1, hfz185_2, hfz185_3, hfz185_4⟩ := bk5 (HM.bx 5 rfl)
          obtain ⟨Xo188, ko188, eo188⟩ := HM.rdR 14 rfl
          subst eo188
          obtain ⟨Xo189, ko189, eo189⟩ := HM.rdR 15 rfl
          subst eo189
          obtain ⟨Xo190, ko190, eo190⟩ := HM.rdR 16 rfl
          subst eo190
          obtain ⟨Xo191, ko191, eo191⟩ := HM.rdR 0 rfl
          subst eo191
          obtain ⟨Xo192, ko192, eo192⟩ := HM.rdR 1 rfl
          subst eo192
          obtain ⟨Xo193, ko193, eo193⟩ := HM.rd 2 rfl
          subst eo193
          go_wp2_with (first | ((with_reducible refine gate_callee (f := 12) rfl ?_); refine pC (some 112) rfl #[.agg #[.int .i64 t979, .int .i64 t980, .slice Xo188 t981.length ko188, .slice Xo189 t984.length ko189, .slice Xo190 t987.length ko190], .agg #[.int .i64 t891, .int .i64 t892, .slice Xo191 t893.length ko191, .slice Xo192 t896.length ko192, .slice Xo193 t899.length ko193]] rfl Try.func12 (laws_eqThree.calls kj118 t979 t980 _ _ t981 _ _ t984 _ _ t987 t891 t892 _ _ t893 _ _ t896 _ _ t899 true _ (HM.CR 14 rfl).2.2 (HM.CR 14 rfl).2.1 (HM.CR 15 rfl).2.2 (HM.CR 15 rfl).2.1 (HM.CR 16 rfl).2.2 (HM.CR 16 rfl).2.1 (HM.CR 0 rfl).2.2 (HM.CR 0 rfl).2.1 (HM.CR 1 rfl).2.2 (HM.CR 1 rfl).2.1 (HM.C 2 rfl).2.2 (HM.C 2 rfl).2.1 A186.out) ?_; rintro e w187 ⟨rfl, hR⟩; refine ⟨_, rfl, ?_⟩; replace HM := HM.call hR; clear hR; obtain ⟨hcz195_0, hcz195_1, hcz195_2, hfz195_0, hfz195_1, hfz195_2⟩ := bk3 (HM.bx 18 rfl); obtain ⟨hcz196_0, hcz196_1, hcz196_2, hfz196_0, hfz196_1, hfz196_2⟩ := bk3 (HM.bx 6 rfl)) | ((with_reducible refine gate_callee (f := 13) rfl ?_); refine pC (some 117) rfl #[.agg #[.bool t990, .string t991, .string t992], .agg #[.bool t902, .string t903, .string t904]] rfl Try.func13 (laws_eqReply.calls t990 t991 t992 t902 t903 t904 true _ A197.out) ?_; rintro e w198 ⟨rfl, hR⟩; refine ⟨_, rfl, ?_⟩; replace HM := HM.call hR; clear hR))
          go_meet
          case rel => exact ⟨_, ((t993 != t905)), RS, H', ⟨laws_FnExactOpDo.z0⟩, (MD HM).pick [8, 9, 10, 7]⟩
         ·subst c199
          have H' := Aside0.mk H
          clear H
          obtain ⟨hcz184_0, hcz184_1, hcz184_2, hcz184_3, hcz184_4, hfz184_0, hfz184_1, hfz184_2, hfz184_3, hfz184_4⟩ := bk5 (HM.bx 17 rfl)
          obtain ⟨hcz185_0, hcz185_1, hcz185_2, hcz185_3, hcz185_4, hfz185_0, hfz185_1, hfz185_2, hfz185_3, hfz185_4⟩ := bk5 (HM.bx 5 rfl)
          obtain ⟨Xo188, ko188, eo188⟩ := HM.rdR 14 rfl
          subst eo188
          obtain ⟨Xo189, ko189, eo189⟩ := HM.rdR 15 rfl
          subst eo189
          obtain ⟨Xo190, ko190, eo190⟩ := HM.rdR 16 rfl
          subst eo190
          obtain ⟨Xo191, ko191, eo191⟩ := HM.rdR 0 rfl
          subst eo191
          obtain ⟨Xo192, ko192, eo192⟩ := HM.rdR 1 rfl
          subst eo192
          obtain ⟨Xo193, ko193, eo193⟩ := HM.rd 2 rfl
          subst eo193
          go_wp2_with (first | ((with_reducible refine gate_callee (f := 12) rfl ?_); refine pC (some 112) rfl #[.agg #[.int .i64 t979, .int .i64 t980, .slice Xo188 t981.length ko188, .slice Xo189 t984.length ko189, .slice Xo190 t987.length ko190], .agg #[.int .i64 t891, .int .i64 t892, .slice Xo191 t893.length ko191, .slice Xo192 t896.length ko192, .slice Xo193 t899.length ko193]] rfl Try.func12 (laws_eqThree.calls kj118 t979 t980 _ _ t981 _ _ t984 _ _ t987 t891 t892 _ _ t893 _ _ t896 _ _ t899 true _ (HM.CR 14 rfl).2.2 (HM.CR 14 rfl).2.1 (HM.CR 15 rfl).2.2 (HM.CR 15 rfl).2.1 (HM.CR 16 rfl).2.2 (HM.CR 16 rfl).2.1 (HM.CR 0 rfl).2.2 (HM.CR 0 rfl).2.1 (HM.CR 1 rfl).2.2 (HM.CR 1 rfl).2.1 (HM.C 2 rfl).2.2 (HM.C 2 rfl).2.1 A186.out) ?_; rintro e w187 ⟨rfl, hR⟩; refine ⟨_, rfl, ?_⟩; replace HM := HM.call hR; clear hR; obtain ⟨hcz195_0, hcz195_1, hcz195_2, hfz195_0, hfz195_1, hfz195_2⟩ := bk3 (HM.bx 18 rfl); obtain ⟨hcz196_0, hcz196_1, hcz196_2, hfz196_0, hfz196_1, hfz196_2⟩ := bk3 (HM.bx 6 rfl)) | ((with_reducible refine gate_callee (f := 13) rfl ?_); refine pC (some 117) rfl #[.agg #[.bool t990, .string t991, .string t992], .agg #[.bool t902, .string t903, .string t904]] rfl Try.func13 (laws_eqReply.calls t990 t991 t992 t902 t903 t904 false _ A197.out) ?_; rintro e w198 ⟨rfl, hR⟩; refine ⟨_, rfl, ?_⟩; replace HM := HM.call hR; clear hR))
          go_meet
          case rel => exact ⟨_, (true), RS, H', ⟨laws_FnExactOpDo.z0⟩, (MD HM).pick [8, 9, 10, 7]⟩
        ·subst c194
         have H' := Aside0.mk H
         clear H
         obtain ⟨hcz184_0, hcz184_1, hcz184_2, hcz184_3, hcz184_4, hfz184_0, hfz184_1, hfz184_2, hfz184_3, hfz184_4⟩ := bk5 (HM.bx 17 rfl)
         obtain ⟨hcz185_0, hcz185_1, hcz185_2, hcz185_3, hcz185_4, hfz185_0, hfz185_1, hfz185_2, hfz185_3, hfz185_4⟩ := bk5 (HM.bx 5 rfl)
         obtain ⟨Xo188, ko188, eo188⟩ := HM.rdR 14 rfl
         subst eo188
         obtain ⟨Xo189, ko189, eo189⟩ := HM.rdR 15 rfl
         subst eo189
         obtain ⟨Xo190, ko190, eo190⟩ := HM.rdR 16 rfl
         subst eo190
         obtain ⟨Xo191, ko191, eo191⟩ := HM.rdR 0 rfl
         subst eo191
         obtain ⟨Xo192, ko192, eo192⟩ := HM.rdR 1 rfl
         subst eo192
         obtain ⟨Xo193, ko193, eo193⟩ := HM.rd 2 rfl
         subst eo193
         go_wp2_with (first | ((with_reducible refine gate_callee (f := 12) rfl ?_); refine pC (some 112) rfl #[.agg #[.int .i64 t979, .int .i64 t980, .slice Xo188 t981.length ko188, .slice Xo189 t984.length ko189, .slice Xo190 t987.length ko190], .agg #[.int .i64 t891, .int .i64 t892, .slice Xo191 t893.length ko191, .slice Xo192 t896.length ko192, .slice Xo193 t899.length ko193]] rfl Try.func12 (laws_eqThree.calls kj118 t979 t980 _ _ t981 _ _ t984 _ _ t987 t891 t892 _ _ t893 _ _ t896 _ _ t899 false _ (HM.CR 14 rfl).2.2 (HM.CR 14 rfl).2.1 (HM.CR 15 rfl).2.2 (HM.CR 15 rfl).2.1 (HM.CR 16 rfl).2.2 (HM.CR 16 rfl).2.1 (HM.CR 0 rfl).2.2 (HM.CR 0 rfl).2.1 (HM.CR 1 rfl).2.2 (HM.CR 1 rfl).2.1 (HM.C 2 rfl).2.2 (HM.C 2 rfl).2.1 A186.out) ?_; rintro e w187 ⟨rfl, hR⟩; refine ⟨_, rfl, ?_⟩; replace HM := HM.call hR; clear hR))
         go_meet
         case rel => exact ⟨_, (true), RS, H', ⟨laws_FnExactOpDo.z0⟩, (MD HM).pick [8, 9, 10, 7]⟩
       case rest =>
        clear HC183 HM
        obtain ⟨kq, x124_182, rfl, HA, HJ182, HM⟩ := hcut
        cases kq with
        | zero => exact absurd HA.out (by simp [laws_FnExactOpDo.j2])
        | succ kj182 =>
         have H := HA.out
         clear HA
         simp only [laws_FnExactOpDo.j2] at H
         replace H := GN H
         obtain ⟨c200, H⟩ := H
         replace c200 := Bool.eq_false_iff.mpr c200
         subst c200
         replace H := BN H; obtain ⟨t998, A202, H⟩ := H
         replace H := GN H; obtain ⟨c204, H⟩ := H
         have c204b0 : decide (t998 < 0) = false := decide_eq_false c204
         clear c204
         replace H := GD H; obtain ⟨c205, H⟩ := H
         have c205b0 : (t998 == t960) = true := beq_iff_eq.mpr c205
         have c205b1 : (t998 != t960) = false := bne_eq_false_iff_eq.mpr c205
         clear c205
         obtain rfl := Option.some.inj H
         obtain ⟨hcz201_0, hcz201_1, hcz201_2, hcz201_3, hcz201_4, hfz201_0, hfz201_1, hfz201_2, hfz201_3, hfz201_4⟩ := bk5 (HM.bx 3 rfl)
         go_wp2_with (first | ((with_reducible refine gate_callee (f := 15) rfl ?_); refine pC (some 127) rfl #[.agg #[.int .i64 t923, .int .i64 t924, .slice Xo144 t961.length ko144, .slice Xo145 t962.length ko145, .slice Xo146 t963.length ko146], .int .i64 1] rfl Try.func15 (laws_heldThree.calls kj182 t923 t924 _ _ t961 _ _ t962 _ _ t963 1 t998 _ (HM.CR 0 rfl).2.2 (HM.CR 0 rfl).2.1 (HM.CR 1 rfl).2.2 (HM.CR 1 rfl).2.1 (HM.CR 2 rfl).2.2 (HM.CR 2 rfl).2.1 A202.out) ?_; rintro e w203 ⟨rfl, hR⟩; refine ⟨_, rfl, ?_⟩; replace HM := HM.call hR; clear hR))
         go_ret
         exact ⟨ER, HM.bel⟩
def laws_eqOp.f (a0_0 : Int) (a0_1 : ByteArray) (a0_2 : ByteArray) (a1_0 : Int) (a1_1 : ByteArray) (a1_2 : ByteArray) : Option (Bool) := if a0_0 = a1_0 then (if a0_1.toList = a1_1.toList then (if a0_2.toList = a1_2.toList then (some true) else (none)) else (none)) else (none)
set_option maxHeartbeats 8000000 in
set_option maxRecDepth 100000 in
theorem laws_eqOp.calls (a0_0 : Int) (a0_1 : ByteArray) (a0_2 : ByteArray) (a1_0 : Int) (a1_1 : ByteArray) (a1_2 : ByteArray) (r : Bool) (w : World)  (h : laws_eqOp.f a0_0 a0_1 a0_2 a1_0 a1_1 a1_2 = some r) :
  Calls Try.prog 50 #[.agg #[.int .i64 a0_0, .string a0_1, .string a0_2], .agg #[.int .i64 a1_0, .string a1_1, .string a1_2]] w fun e w' => e = .returned (.bool r) ∧ Mem w [] w' [] := by
 have hu38 := Try.underlying38
 have HM := Mem.nil w
 have H := h
 clear h
 unfold laws_eqOp.f at H
 go_enter Try.func50, Try.ntmps50
 replace H := GD H; obtain ⟨c7, H⟩ := H
 have c7b0 : (a0_0 == a1_0) = true := beq_iff_eq.mpr c7
 have c7b1 : (a0_0 != a1_0) = false := bne_eq_false_iff_eq.mpr c7
 clear c7
 replace H := GD H; obtain ⟨c8, H⟩ := H
 have c8b0 : (a0_1.toList == a1_1.toList) = true := beq_iff_eq.mpr c8
 have c8b1 : (a0_1.toList != a1_1.toList) = false := bne_eq_false_iff_eq.mpr c8
 clear c8
 replace H := GD H; obtain ⟨c9, H⟩ := H
 have c9b0 : (a0_2.toList == a1_2.toList) = true := beq_iff_eq.mpr c9
 have c9b1 : (a0_2.toList != a1_2.toList) = false := bne_eq_false_iff_eq.mpr c9
 clear c9
 obtain rfl := Option.some.inj H
 go_wp2_with (first | ((with_reducible refine gate_dst (N := 2) rfl ?_); refine pB 2 38 [.int .i64 a0_0, .string a0_1, .string a0_2] HM rfl ?_; clear HM; intro gb1100 w3 HM) | ((with_reducible refine gate_dst (N := 3) rfl ?_); refine pB 3 38 [.int .i64 a1_0, .string a1_1, .string a1_2] HM rfl ?_; clear HM; intro gb1101 w4 HM; obtain ⟨hcz5_0, hcz5_1, hcz5_2, hfz5_0, hfz5_1, hfz5_2⟩ := bk3 (HM.bx 0 rfl); obtain ⟨hcz6_0, hcz6_1, hcz6_2, hfz6_0, hfz6_1, hfz6_2⟩ := bk3 (HM.bx 1 rfl)))
 go_ret
 exact ⟨ER, (MD HM).pick []⟩
end Go.Proofs.Ytdeijmofaapgdaa.G
