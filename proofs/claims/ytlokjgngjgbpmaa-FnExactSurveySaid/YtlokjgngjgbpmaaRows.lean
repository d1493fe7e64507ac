/-
  No cell of these rows narrows 'for every input' (looked for: loops, veiled, ifaces, maps, wideKeys, modest, calm, conditions, laid).
  DERIVED. THE GIVEN ROWS OF THIS SEAT. 3 by the template 'for every input the law returns true; each argument reads behind the call as it read before'; 0 by the template 'total and deterministic' (their statements: YtlokjgngjgbpmaaTotals.lean).
  GIVEN WITH THE SEED: the statements are not yours to turn. If you find one false, say at which input.
  Laid BY PROGRAM, IN A SANDBOX (cutbox-rows.mjs): the forced cells as the released guide's own fill.sh prints them over the translation cd81c72e92d1023c… (all of the seat's roots in one cut). By AI agents, Wed Nov 11 2026. No macro, syntax, notation, axiom, sorry.
-/
import Derived.Test.YtlokjgngjgbpmaaChecked
import GoSem.Claim
import GoSem.ClaimJoined
import GoSem.ClaimMapViews
import Derived.JoinedTies
import Derived.KernelRfl
namespace Go.Proofs.Ytlokjgngjgbpmaa
/- THE CELL 'sum', in the pinned program and in every row, IS THE sha256 OF THE DUMP (.gsa) THAT YtlokjgngjgbpmaaProg.lean LOADS. Nothing in Lean hashes anything: it is a label: what it is worth is what the hold of that sum in a sandbox is worth. -/
noncomputable def Try.pinned : Pinned := { name := "ytlokjgngjgbpmaa", sum := "cd81c72e92d1023c674fe142a4946270dcd05406c7390bd8db3afddcb8a88b85", checked := Try.checked }
namespace Rows
def none {H : Type} : Left H := { results := [], args := [] }

/-- 'laws.FnLab': WHATEVER THE INPUT: true; the input reads as it did. -/
def fnLabSpec : ChangeSpec := { name := "fnLab", fn := fun _ => fun
  | [d] => { results := [.lit (.bool true)], args := [d] }
  | _ => none }
def fnLabRow : OpenClaim := { program := "ytlokjgngjgbpmaa", sum := "cd81c72e92d1023c674fe142a4946270dcd05406c7390bd8db3afddcb8a88b85", func := "loop.example/g00724/laws.FnLab", spec := "fnLab", unfollowed := true, recurses := true, apart := false }
def FnLabSaid : Prop := fnLabRow.holds Try.pinned (OpenSpec.ofChange fnLabSpec)

/-- ITS FALSE NEIGHBOUR: 'it returns false'. Refute it at one input. -/
def fnLabWrong : ChangeSpec := { name := "fnLab", fn := fun _ => fun
  | [d] => { results := [.lit (.bool false)], args := [d] }
  | _ => none }
def FnLabWrongFalsely : Prop := fnLabRow.holds Try.pinned (OpenSpec.ofChange fnLabWrong)

/-- 'laws.FnExactSurvey': WHATEVER THE INPUT: true; the input reads as it did. -/
def fnExactSurveySpec : ChangeSpec := { name := "fnExactSurvey", fn := fun _ => fun
  | [d1, d2] => { results := [.lit (.bool true)], args := [d1, d2] }
  | _ => none }
def fnExactSurveyRow : OpenClaim := { program := "ytlokjgngjgbpmaa", sum := "cd81c72e92d1023c674fe142a4946270dcd05406c7390bd8db3afddcb8a88b85", func := "loop.example/g00724/laws.FnExactSurvey", spec := "fnExactSurvey", unfollowed := true, recurses := true, apart := false }
def FnExactSurveySaid : Prop := fnExactSurveyRow.holds Try.pinned (OpenSpec.ofChange fnExactSurveySpec)

/-- ITS FALSE NEIGHBOUR: 'it returns false'. Refute it at one input. -/
def fnExactSurveyWrong : ChangeSpec := { name := "fnExactSurvey", fn := fun _ => fun
  | [d1, d2] => { results := [.lit (.bool false)], args := [d1, d2] }
  | _ => none }
def FnExactSurveyWrongFalsely : Prop := fnExactSurveyRow.holds Try.pinned (OpenSpec.ofChange fnExactSurveyWrong)

/-- 'laws.FnExactLab': WHATEVER THE INPUT: true; the input reads as it did. -/
def fnExactLabSpec : ChangeSpec := { name := "fnExactLab", fn := fun _ => fun
  | [d1, d2] => { results := [.lit (.bool true)], args := [d1, d2] }
  | _ => none }
def fnExactLabRow : OpenClaim := { program := "ytlokjgngjgbpmaa", sum := "cd81c72e92d1023c674fe142a4946270dcd05406c7390bd8db3afddcb8a88b85", func := "loop.example/g00724/laws.FnExactLab", spec := "fnExactLab", unfollowed := true, recurses := true, apart := false }
def FnExactLabSaid : Prop := fnExactLabRow.holds Try.pinned (OpenSpec.ofChange fnExactLabSpec)

/-- ITS FALSE NEIGHBOUR: 'it returns false'. Refute it at one input. -/
def fnExactLabWrong : ChangeSpec := { name := "fnExactLab", fn := fun _ => fun
  | [d1, d2] => { results := [.lit (.bool false)], args := [d1, d2] }
  | _ => none }
def FnExactLabWrongFalsely : Prop := fnExactLabRow.holds Try.pinned (OpenSpec.ofChange fnExactLabWrong)

/- THE SECOND FORM. 'bulk': how many values and letters a reading holds, each counted each time it is reached (what is shared counts as often as it is met; a slice's spare places count too). A statement '..UptoSaid' is the law's where the arguments, and the package variables that the reading takes, are together of bulk at most 1048576: NARROWER than '..Said'. Prove '..Said' where nothing that the law and all that it calls make is longer than what came in: it says more and counts as full. Else prove '..UptoSaid'. A law counts once. -/
mutual
def uptoBulk {H : Type} : DataW H → Nat
  | .lit (.string bytes) => bytes.length + 1
  | .lit _ => 1
  | .nil => 1
  | .ptr d => uptoBulk d + 1
  | .slice elems spare => uptoBulkAll elems + uptoBulkAll spare + 1
  | .agg parts => uptoBulkAll parts + 1
  | .iface _ d => uptoBulk d + 1
  | .map entries => uptoBulkEntries entries + 1
  | .held _ => 1
def uptoBulkAll {H : Type} : List (DataW H) → Nat
  | [] => 0
  | d :: r => uptoBulk d + uptoBulkAll r
def uptoBulkEntries {H : Type} : List (Lit × DataW H) → Nat
  | [] => 0
  | x :: r => uptoBulkEntry x + uptoBulkEntries r
def uptoBulkEntry {H : Type} : Lit × DataW H → Nat
  | (.string bytes, d) => bytes.length + uptoBulk d + 1
  | (_, d) => uptoBulk d + 1
 end
def uptoSmall : (H : Type) → List (DataW H) → Bool := fun _ ds => decide (uptoBulkAll ds ≤ 1048576)
def OpenSpec.upto (s : _root_.Go.ChangeSpec) : _root_.Go.OpenSpec := { _root_.Go.OpenSpec.ofChange s with cond := some uptoSmall }

/-- 'laws.FnLab', WHERE WHAT IT READS IS OF BULK AT MOST 1048576: true; the input reads as it did. -/
def fnLabUptoRow : OpenClaim := { program := "ytlokjgngjgbpmaa", sum := "cd81c72e92d1023c674fe142a4946270dcd05406c7390bd8db3afddcb8a88b85", func := "loop.example/g00724/laws.FnLab", spec := "fnLab", unfollowed := true, recurses := true, apart := false, narrowed := true }
def FnLabUptoSaid : Prop := fnLabUptoRow.holds Try.pinned (OpenSpec.upto fnLabSpec)

/-- 'laws.FnExactSurvey', WHERE WHAT IT READS IS OF BULK AT MOST 1048576: true; the input reads as it did. -/
def fnExactSurveyUptoRow : OpenClaim := { program := "ytlokjgngjgbpmaa", sum := "cd81c72e92d1023c674fe142a4946270dcd05406c7390bd8db3afddcb8a88b85", func := "loop.example/g00724/laws.FnExactSurvey", spec := "fnExactSurvey", unfollowed := true, recurses := true, apart := false, narrowed := true }
def FnExactSurveyUptoSaid : Prop := fnExactSurveyUptoRow.holds Try.pinned (OpenSpec.upto fnExactSurveySpec)

/-- 'laws.FnExactLab', WHERE WHAT IT READS IS OF BULK AT MOST 1048576: true; the input reads as it did. -/
def fnExactLabUptoRow : OpenClaim := { program := "ytlokjgngjgbpmaa", sum := "cd81c72e92d1023c674fe142a4946270dcd05406c7390bd8db3afddcb8a88b85", func := "loop.example/g00724/laws.FnExactLab", spec := "fnExactLab", unfollowed := true, recurses := true, apart := false, narrowed := true }
def FnExactLabUptoSaid : Prop := fnExactLabUptoRow.holds Try.pinned (OpenSpec.upto fnExactLabSpec)

end Rows
end Go.Proofs.Ytlokjgngjgbpmaa
