/- Script is the reference's: the ops' texts, each with a break, or nothing where one isn't right; no conditions beside the sizes that a row reads. -/
import Derived.Test.YtlmpbngndcagbaaOpOk
import Derived.Test.YtlmpbngndcagbaaSaysFnExactScript
import Derived.Test.YtlmpbngndcagbaaFamOpS
import Derived.Test.YtlmpbngndcagbaaG36
import Derived.Test.YtlmpbngndcagbaaG44
import Derived.Test.YtlmpbngndcagbaaG47
namespace Go.Proofs.Ytlmpbngndcagbaa.Q
open Go.RowKit Go.Proofs.Ytlmpbngndcagbaa.G Go.Proofs.Ytlmpbngndcagbaa.PL Go.Proofs.Ytlmpbngndcagbaa.Ok Go.Proofs.Ytlmpbngndcagbaa.Fam Go.Proofs.YtlmpbngndcagbaaW.PrintWords Go.Proofs.YtlmpbngndcagbaaW.PrintLast
def scriptFrom (acc : ByteArray) : List S74 → ByteArray
  | [] => acc
  | o :: r => if opOk o.f0 o.f1 o.f2 = true then scriptFrom ((acc ++ opText o.f0 o.f1 o.f2) ++ (⟨#[10]⟩ : ByteArray)) r else ⟨#[]⟩
theorem script_size (acc : ByteArray) (o : S74) : ((acc ++ opText o.f0 o.f1 o.f2) ++ (⟨#[10]⟩ : ByteArray)).size ≤ acc.size + 67 := by
  rw [ByteArray.size_append, ByteArray.size_append]
  have h := opText_size o.f0 o.f1 o.f2
  have e : (⟨#[10]⟩ : ByteArray).size = 1 := rfl
  omega
theorem spec_Script_l0 (l : List S74) (hl : l.length ≤ 140737488351232) (ho : ∀ o ∈ l, o.f1.size ≤ 140737488351232 ∧ o.f2.size ≤ 140737488351232) : ∀ (d i : Nat) (acc : ByteArray), i + d = l.length → acc.size + 67 * d ≤ 4611686018427387904 →
    Ev (fun k => spec_Script.l0 k acc l (l.length : Int) i) (scriptFrom acc (l.drop i)) := by
  intro d
  induction d with
  | zero =>
    intro i acc hi hs
    refine Ev.step (fun _ => rfl) ?_
    simp only [spec_Script.l0]
    refine Ev.neg (by omega) ?_
    rw [List.drop_of_length_le (by omega)]
    exact Ev.const rfl
  | succ d ih =>
    intro i acc hi hs
    have hlt : i < l.length := by omega
    have er : rd_T74 l (i : Int) = l[i] := getD_at hlt _
    have hok := ho _ (List.getElem_mem hlt)
    have hz := opText_size (l[i]).f0 (l[i]).f1 (l[i]).f2
    refine Ev.step (fun _ => rfl) ?_
    simp only [spec_Script.l0]
    rw [er, drop_at hlt, wsucc (by omega), scriptFrom]
    refine Ev.pos (by omega) (Ev.pos (by omega) (Ev.pos (by omega) ?_))
    refine Ev.bind (spec_OpOk_ev _ _ _ hok.1 hok.2) ?_
    cases c : opOk (l[i]).f0 (l[i]).f1 (l[i]).f2
    · exact Ev.neg (by simp) (Ev.const (by simp))
    refine Ev.pos rfl ?_
    refine Ev.bind (spec_OpText_ev _ _ _ hok.1 hok.2) ?_
    refine Ev.pos (by omega) (Ev.pos (by omega) ?_)
    rw [if_pos rfl]
    exact ih (i + 1) _ (by omega) (by have := script_size acc l[i]; omega)
theorem impl_Script_l0 (l : List S74) (hl : l.length ≤ 140737488351232) (ho : ∀ o ∈ l, o.f1.size ≤ 140737488351232 ∧ o.f2.size ≤ 140737488351232) : ∀ (d i : Nat) (acc : ByteArray), i + d = l.length → acc.size + 67 * d ≤ 4611686018427387904 →
    Ev (fun k => impl_Script.l0 k acc l (l.length : Int) i) (scriptFrom acc (l.drop i)) := by
  intro d
  induction d with
  | zero =>
    intro i acc hi hs
    refine Ev.step (fun _ => rfl) ?_
    simp only [impl_Script.l0]
    refine Ev.neg (by omega) ?_
    rw [List.drop_of_length_le (by omega)]
    exact Ev.const rfl
  | succ d ih =>
    intro i acc hi hs
    have hlt : i < l.length := by omega
    have er : rd_T74 l (i : Int) = l[i] := getD_at hlt _
    have hok := ho _ (List.getElem_mem hlt)
    have hz := opText_size (l[i]).f0 (l[i]).f1 (l[i]).f2
    refine Ev.step (fun _ => rfl) ?_
    simp only [impl_Script.l0]
    rw [er, drop_at hlt, wsucc (by omega), scriptFrom]
    refine Ev.pos (by omega) (Ev.pos (by omega) (Ev.pos (by omega) ?_))
    refine Ev.bind (impl_OpText_ev _ _ _ hok.1 hok.2) ?_
    cases c : opOk (l[i]).f0 (l[i]).f1 (l[i]).f2
    · exact Ev.pos (by rw [toList_nil]; exact (opText_nil _ _ _).2 c) (Ev.const (by simp))
    refine Ev.neg (by rw [toList_nil, opText_nil, c]; simp) ?_
    refine Ev.pos (by omega) (Ev.pos (by omega) ?_)
    rw [if_pos rfl]
    exact ih (i + 1) _ (by omega) (by have := script_size acc l[i]; omega)
theorem spec_Script_ev (l : List S74) (hl : l.length ≤ 1048576) (ho : ∀ o ∈ l, o.f1.size ≤ 140737488351232 ∧ o.f2.size ≤ 140737488351232) : Ev (fun k => spec_Script.f k l) (scriptFrom ⟨#[]⟩ l) := by
  unfold spec_Script.f
  exact spec_Script_l0 l (by omega) ho l.length 0 ⟨#[]⟩ (by omega) (by rw [show (⟨#[]⟩ : ByteArray).size = 0 from rfl]; omega)
theorem impl_Script_ev (l : List S74) (hl : l.length ≤ 1048576) (ho : ∀ o ∈ l, o.f1.size ≤ 140737488351232 ∧ o.f2.size ≤ 140737488351232) : Ev (fun k => impl_Script.f k l) (scriptFrom ⟨#[]⟩ l) := by
  unfold impl_Script.f
  exact impl_Script_l0 l (by omega) ho l.length 0 ⟨#[]⟩ (by omega) (by rw [show (⟨#[]⟩ : ByteArray).size = 0 from rfl]; omega)
end Go.Proofs.Ytlmpbngndcagbaa.Q
namespace Go.Proofs.Ytlmpbngndcagbaa.Pure
open Go.RowKit Go.Proofs.Ytlmpbngndcagbaa.G Go.Proofs.Ytlmpbngndcagbaa.PL Go.Proofs.Ytlmpbngndcagbaa.Ok Go.Proofs.Ytlmpbngndcagbaa.Fam Go.Proofs.Ytlmpbngndcagbaa.Q Go.Proofs.YtlmpbngndcagbaaW.PrintWords Go.Proofs.YtlmpbngndcagbaaW.PrintLast Go.Proofs.Ytlmpbngndcagbaa.G.fnExactScript
theorem FnExactScript : FnExactScript.Pure := by
  intro x0 o0
  apply Ev.rounds
  unfold laws_FnExactScript.f
  have o0' : okT35 x0 := o0
  have b0 := o0'.2
  refine Ev.bind (szOpS_ev x0 1048576 (by omega) (by omega) o0') ?_
  by_cases c0 : (szmOpS x0 : Int) ≤ 1048576
  rotate_left
  · rw [left_neg c0]; exact Ev.pos (by omega) (Ev.const rfl)
  rw [left_pos c0]
  refine Ev.neg (by omega) ?_
  have l0 : (x0.map cvOp).length ≤ 1048576 := by rw [List.length_map]; unfold szmOpS at c0; omega
  have ho : ∀ o ∈ x0.map cvOp, o.f1.size ≤ 140737488351232 ∧ o.f2.size ≤ 140737488351232 := by
    intro o h
    obtain ⟨a, ha, rfl⟩ := List.mem_map.1 h
    exact (o0'.1 a ha).2
  refine Ev.bind (toOpS_ev x0 o0') ?_
  refine Ev.bind (spec_Script_ev _ l0 ho) ?_
  refine Ev.bind (toOpS_ev x0 o0') ?_
  refine Ev.bind (impl_Script_ev _ l0 ho) ?_
  refine Ev.pos rfl ?_
  refine Ev.bind (toOpS_ev x0 o0') ?_
  refine Ev.bind (eqOpS_ev _ (by omega)) ?_
  refine Ev.pos rfl ?_
  exact Ev.const rfl
end Go.Proofs.Ytlmpbngndcagbaa.Pure
