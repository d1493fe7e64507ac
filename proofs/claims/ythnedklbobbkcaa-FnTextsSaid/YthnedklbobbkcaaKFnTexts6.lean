/- Part 6 of the claim FnTexts, merged by pack.py (this session's program) out of: the print's words, cut to what is needed; texts that gen.py printed (it runs the kit's print in place); texts of this session. -/
import Derived.Test.YthnedklbobbkcaaRows
import Derived.WalkKit
import Derived.ProofKit
import Derived.OpenShut
import Derived.ShutString
import Derived.ChangeOld
import Derived.Below
import Derived.SizedLaws
import Derived.Test.YthnedklbobbkcaaKFnTexts5
namespace Go.Proofs.Ythnedklbobbkcaa.G.fnTexts
end Go.Proofs.Ythnedklbobbkcaa.G.fnTexts
namespace Go.Proofs.Ythnedklbobbkcaa.Ok
end Go.Proofs.Ythnedklbobbkcaa.Ok
namespace Go.Proofs.Ythnedklbobbkcaa.Open
end Go.Proofs.Ythnedklbobbkcaa.Open
namespace Go.Proofs.Ythnedklbobbkcaa.fnTexts
open Go.ChangeShapes Go.WideShapes Go.ChangeAt Go.RowKit Go.Proofs.Ythnedklbobbkcaa.Open Go.Proofs.Ythnedklbobbkcaa.Ok Go.Proofs.Ythnedklbobbkcaa.G.fnTexts
set_option linter.unusedVariables false
theorem own : ownKnob Try.prog.godebug = none := by kernel_rfl
theorem laidOut : laidOutB Try.prog = true := by kernel_rfl
set_option maxRecDepth 100000 in
set_option maxHeartbeats 2000000 in
theorem lifted (pure : FnTexts.Pure) (os : Os) (started : os.Started) (H : Type) (enc : TypeId × Value → H) :
  ReturnsInHanded {} Try.checked os 4 .any (Rows.fnTextsSpec.pre6 enc Try.prog Try.f4 Rows.fnTextsRow.domain false) (Rows.fnTextsSpec.post enc Try.prog Try.f4 false true false false) := by
 refine returnsInHanded_of_change_sized (C := Try.checked) own started (by kernel_rfl) Try.func4
  (ChangeSpec.witness6 (enc := enc) (C := Try.checked) false ⟨#[], #[.slice none 0 0], []⟩ 8 (by kernel_rfl) (by kernel_rfl) (by kernel_rfl) (by kernel_rfl)) ?_
 intro W base args ds gs before hval0 hW hcnd hsz0 _
 have hsz : (DataW.weightsEach Try.prog (Try.f4.params.toList ++ Rows.fnTextsSpec.plain.varTypes Try.prog) (ds ++ gs)).all (· ≤ reachBytes) = true := hsz0
 have hval : ∀ (j : Nat) t v, Try.f4.params[j]? = some t → args[j]? = some v → Value.okWide Try.prog W .any base t v := hval0
 have hW' := hW
 obtain ⟨p, q, hA0, hV, rfl, hfz, hnd⟩ := hW
 have hA : DataW.TrodAll enc Try.prog W 0 (fun _ => true) true Try.f4.params.toList args.toList ds p := hA0
 rw [Try.params4] at hA hval hsz
 obtain ⟨v0, vs0, d0, ds0, p0, q0, hargs, rfl, rfl, h0, r0⟩ := trodAll_cons hA
 obtain ⟨rfl, rfl, rfl⟩ := trodAll_nil r0
 obtain rfl : args = #[v0] := by cases args; simp_all
 obtain ⟨rfl, rfl⟩ := trodVars_none hV
 have k0 := h0
 have lt0 : ∀ x ∈ p0, x.block < W.heap.size := by obtain ⟨m, hm⟩ := k0; exact DataW.trod_lt m _ _ _ hm
 obtain ⟨fuel0, hf0⟩ := h0
 obtain ⟨x0, hK0, ok0⟩ := opn28 H enc W fuel0 _ _ _ hf0 (weights_of hsz (j := 0) (t := 28) rfl rfl)
 obtain ⟨a0, len0, cap0, rfl⟩ := okWide_slice Try.underlying28 (hval 0 28 v0 rfl rfl)
 obtain ⟨A0, c0, e0, hl0, hC0⟩ := slice_cell hK0
 obtain ⟨rfl, rfl, rfl⟩ := Value.slice.inj e0
 clear hA0 hval0 hsz0 hsz
 obtain ⟨k, hk⟩ := pure x0 ok0
 refine (Go.Proofs.Ythnedklbobbkcaa.G.laws_FnTexts.calls k _ _ x0 true W hC0 hl0 hk).mono fun e W' ⟨he, bel⟩ => ?_
 subst he
 exact ⟨_, rfl, _, _, _, [], _, [], hW', trodAll_mk1 (shut_bool Try.underlying4 _), (trodAll_cons_mk (Below.trod laidOut (by kernel_rfl) (of_decide_eq_true (by kernel_rfl)) k0 bel lt0) trodAll_mk0), rfl, bel.frame _, fun h => by cases h⟩
theorem over (pure : FnTexts.Pure) : Rows.fnTextsRow.holds Try.pinned (OpenSpec.ofChange Rows.fnTextsSpec) :=
 OpenClaim.holds_of_wide 4 Try.f4 rfl rfl rfl rfl rfl rfl rfl ⟨rfl, rfl, rfl, rfl, rfl⟩ rfl rfl rfl rfl rfl (by kernel_rfl) Try.func4 (by kernel_rfl)
  (of_decide_eq_true (by kernel_rfl)) (by unfold Func.isWrapper; first | (rw [if_pos (by decide +kernel)]; kernel_rfl) | (rw [if_neg (by decide +kernel)]; exact ⟨rfl, rfl⟩))
  (fun os started H enc _ => lifted pure os started H enc)
end Go.Proofs.Ythnedklbobbkcaa.fnTexts
namespace Go.Proofs.Ythnedklbobbkcaa
/-- The row, for the claim. -/
theorem fnTexts_holds : Rows.FnTextsSaid := fnTexts.over Pure.FnTexts
end Go.Proofs.Ythnedklbobbkcaa
