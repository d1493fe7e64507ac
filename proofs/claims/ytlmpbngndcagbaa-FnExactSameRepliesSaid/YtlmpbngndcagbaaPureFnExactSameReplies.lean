/- SameReplies is the reference's: both tell whether two lists of replies are one; no conditions beside the sizes that a row reads. -/
import Derived.Test.YtlmpbngndcagbaaSaysFnExactSameReplies
import Derived.Test.YtlmpbngndcagbaaFamReplyS
namespace Go.Proofs.Ytlmpbngndcagbaa.Same
open Go.RowKit Go.Proofs.Ytlmpbngndcagbaa.G Go.Proofs.Ytlmpbngndcagbaa.PL Go.Proofs.Ytlmpbngndcagbaa.Ok Go.Proofs.Ytlmpbngndcagbaa.Fam Go.Proofs.YtlmpbngndcagbaaW.PrintWords Go.Proofs.YtlmpbngndcagbaaW.PrintLast Go.Proofs.YtlmpbngndcagbaaW.PrintMore
set_option linter.unusedVariables false
set_option linter.unusedSimpArgs false

theorem reply_ne (a b : S83) : (!(a.f0 == b.f0) || (!(a.f1.toList == b.f1.toList) || (!(a.f2.toList == b.f2.toList)))) = !decide (a = b) := by
  rw [bytes_beq, bytes_beq]
  cases a; cases b
  rw [Bool.eq_iff_iff]
  simp
theorem same_l0 (xs ys : List S83) (hl : xs.length = ys.length) (hb : xs.length ≤ 140737488351232) : ∀ (d i : Nat), i + d = xs.length →
    Ev (fun k => spec_SameReplies.l0 k xs ys (xs.length : Int) i) (decide (xs.drop i = ys.drop i)) ∧ Ev (fun k => impl_Reply.l0 k xs ys (xs.length : Int) i) (decide (xs.drop i = ys.drop i)) := by
  intro d
  induction d with
  | zero =>
    intro i hi
    have e : decide (xs.drop i = ys.drop i) = true := by rw [List.drop_of_length_le (by omega), List.drop_of_length_le (by omega)]; simp
    rw [e]
    constructor
    · refine Ev.step (fun _ => rfl) ?_
      simp only [spec_SameReplies.l0]
      exact Ev.neg (by omega) (Ev.const rfl)
    · refine Ev.step (fun _ => rfl) ?_
      simp only [impl_Reply.l0]
      exact Ev.neg (by omega) (Ev.const rfl)
  | succ d ih =>
    intro i hi
    have hx : i < xs.length := by omega
    have hy : i < ys.length := by omega
    have ex : rd_T83 xs (i : Int) = xs[i] := getD_at hx _
    have ey : rd_T83 ys (i : Int) = ys[i] := getD_at hy _
    have h := ih (i + 1) (by omega)
    by_cases c : xs[i] = ys[i]
    · have e : decide (xs.drop i = ys.drop i) = decide (xs.drop (i + 1) = ys.drop (i + 1)) := by rw [drop_at hx, drop_at hy, decide_cons, decide_eq_true c, Bool.true_and]
      rw [e]
      constructor
      · refine Ev.step (fun _ => rfl) ?_
        simp only [spec_SameReplies.l0]
        rw [ex, ey, reply_ne, wsucc (by omega)]
        exact Ev.pos (by omega) (Ev.pos (by omega) (Ev.pos (by omega) (Ev.pos (by omega) (Ev.neg (by simp [c]) h.1))))
      · refine Ev.step (fun _ => rfl) ?_
        simp only [impl_Reply.l0]
        rw [ex, ey, reply_ne, wsucc (by omega)]
        exact Ev.pos (by omega) (Ev.pos (by omega) (Ev.pos (by omega) (Ev.pos (by omega) (Ev.neg (by simp [c]) h.2))))
    · have e : decide (xs.drop i = ys.drop i) = false := by rw [drop_at hx, drop_at hy, decide_cons, decide_eq_false c, Bool.false_and]
      rw [e]
      constructor
      · refine Ev.step (fun _ => rfl) ?_
        simp only [spec_SameReplies.l0]
        rw [ex, ey, reply_ne, wsucc (by omega)]
        exact Ev.pos (by omega) (Ev.pos (by omega) (Ev.pos (by omega) (Ev.pos (by omega) (Ev.pos (by simp [c]) (Ev.const rfl)))))
      · refine Ev.step (fun _ => rfl) ?_
        simp only [impl_Reply.l0]
        rw [ex, ey, reply_ne, wsucc (by omega)]
        exact Ev.pos (by omega) (Ev.pos (by omega) (Ev.pos (by omega) (Ev.pos (by omega) (Ev.pos (by simp [c]) (Ev.const rfl)))))
theorem same_spec (xs ys : List S83) (hb : xs.length ≤ 140737488351232) : Ev (fun k => spec_SameReplies.f k xs ys) (decide (xs = ys)) := by
  unfold spec_SameReplies.f
  by_cases c : xs.length = ys.length
  · exact Ev.pos (by omega) (same_l0 xs ys c hb xs.length 0 (by omega)).1
  · refine Ev.neg (by omega) (Ev.const ?_)
    have : ¬ xs = ys := fun h => c (by rw [h])
    simp [this]
theorem same_impl (xs ys : List S83) (hb : xs.length ≤ 140737488351232) : Ev (fun k => impl_SameReplies.f k xs ys) (decide (xs = ys)) := by
  unfold impl_SameReplies.f impl_Reply.f
  refine Ev.bind (g := fun k => if (xs.length : Int) = (ys.length : Int) then impl_Reply.l0 k xs ys (xs.length : Int) 0 else some false) (a := decide (xs = ys)) ?_ (Ev.const rfl)
  by_cases c : xs.length = ys.length
  · exact Ev.pos (by omega) (same_l0 xs ys c hb xs.length 0 (by omega)).2
  · refine Ev.neg (by omega) (Ev.const ?_)
    have : ¬ xs = ys := fun h => c (by rw [h])
    simp [this]
end Go.Proofs.Ytlmpbngndcagbaa.Same
namespace Go.Proofs.Ytlmpbngndcagbaa.Pure
open Go.RowKit Go.Proofs.Ytlmpbngndcagbaa.G Go.Proofs.Ytlmpbngndcagbaa.PL Go.Proofs.Ytlmpbngndcagbaa.Ok Go.Proofs.Ytlmpbngndcagbaa.Fam Go.Proofs.Ytlmpbngndcagbaa.Same Go.Proofs.YtlmpbngndcagbaaW.PrintWords Go.Proofs.YtlmpbngndcagbaaW.PrintLast Go.Proofs.Ytlmpbngndcagbaa.G.fnExactSameReplies
theorem FnExactSameReplies : FnExactSameReplies.Pure := by
  intro x0 x1 ⟨o0, o1⟩
  apply Ev.rounds
  unfold laws_FnExactSameReplies.f
  have b0 := o0.2
  have b1 := o1.2
  refine Ev.bind (szReplyS_ev x0 1048576 (by omega) (by omega) o0) ?_
  by_cases c0 : (szmReplyS x0 : Int) ≤ 1048576
  rotate_left
  · rw [left_neg c0]; exact Ev.pos (by omega) (Ev.const rfl)
  rw [left_pos c0]
  refine Ev.neg (by omega) ?_
  refine Ev.bind (szReplyS_ev x1 _ (by omega) (by omega) o1) ?_
  by_cases c1 : (szmReplyS x1 : Int) ≤ 1048576 - szmReplyS x0
  rotate_left
  · rw [left_neg c1]; exact Ev.pos (by omega) (Ev.const rfl)
  rw [left_pos c1]
  refine Ev.neg (by omega) ?_
  have l0 : (x0.map cvReply).length ≤ 140737488351232 := by rw [List.length_map]; omega
  have l1 : (x1.map cvReply).length ≤ 140737488351232 := by rw [List.length_map]; omega
  refine Ev.bind (toReplyS_ev x0 o0) ?_
  refine Ev.bind (toReplyS_ev x1 o1) ?_
  refine Ev.bind (same_spec _ _ l0) ?_
  refine Ev.bind (toReplyS_ev x0 o0) ?_
  refine Ev.bind (toReplyS_ev x1 o1) ?_
  refine Ev.bind (same_impl _ _ l0) ?_
  refine Ev.neg (by simp) ?_
  refine Ev.bind (toReplyS_ev x0 o0) ?_
  refine Ev.bind (eqReplyS_ev _ l0) ?_
  refine Ev.pos rfl ?_
  refine Ev.bind (toReplyS_ev x1 o1) ?_
  refine Ev.bind (eqReplyS_ev _ l1) ?_
  refine Ev.pos rfl ?_
  exact Ev.const rfl
end Go.Proofs.Ytlmpbngndcagbaa.Pure
