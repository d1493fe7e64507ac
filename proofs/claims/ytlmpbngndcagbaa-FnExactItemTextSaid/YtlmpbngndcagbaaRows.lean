/-
  No cell of these rows narrows 'for every input' (looked for: loops, veiled, ifaces, maps, wideKeys, modest, calm, conditions, laid).
  DERIVED. THE GIVEN ROWS OF THIS SEAT. 7 by the template 'for every input the law returns true; each argument reads behind the call as it read before'; 0 by the template 'total and deterministic' (their statements: YtlmpbngndcagbaaTotals.lean).
  GIVEN WITH THE SEED: the statements are not yours to turn. If you find one false, say at which input.
  Laid BY PROGRAM, IN A SANDBOX (cutbox-rows.mjs): the forced cells as the released guide's own fill.sh prints them over the translation 30a8e143b048be31… (all of the seat's roots in one cut). By AI agents, Wed Nov 11 2026. No macro, syntax, notation, axiom, sorry.
-/
import Derived.Test.YtlmpbngndcagbaaChecked
import GoSem.Claim
import GoSem.ClaimJoined
import GoSem.ClaimMapViews
import Derived.JoinedTies
import Derived.KernelRfl
namespace Go.Proofs.Ytlmpbngndcagbaa
/- THE CELL 'sum', in the pinned program and in every row, IS THE sha256 OF THE DUMP (.gsa) THAT YtlmpbngndcagbaaProg.lean LOADS. Nothing in Lean hashes anything: it is a label: what it is worth is what the hold of that sum in a sandbox is worth. -/
noncomputable def Try.pinned : Pinned := { name := "ytlmpbngndcagbaa", sum := "30a8e143b048be31648dbfc6e109dddefaccaa2fa72e784fd76d77080406a6ae", checked := Try.checked }
namespace Rows
def none {H : Type} : Left H := { results := [], args := [] }

/-- 'laws.FnExactSameReplies': WHATEVER THE INPUT: true; the input reads as it did. -/
def fnExactSameRepliesSpec : ChangeSpec := { name := "fnExactSameReplies", fn := fun _ => fun
  | [d1, d2] => { results := [.lit (.bool true)], args := [d1, d2] }
  | _ => none }
def fnExactSameRepliesRow : OpenClaim := { program := "ytlmpbngndcagbaa", sum := "30a8e143b048be31648dbfc6e109dddefaccaa2fa72e784fd76d77080406a6ae", func := "loop.example/g00724/laws.FnExactSameReplies", spec := "fnExactSameReplies", apart := false }
def FnExactSameRepliesSaid : Prop := fnExactSameRepliesRow.holds Try.pinned (OpenSpec.ofChange fnExactSameRepliesSpec)

/-- ITS FALSE NEIGHBOUR: 'it returns false'. Refute it at one input. -/
def fnExactSameRepliesWrong : ChangeSpec := { name := "fnExactSameReplies", fn := fun _ => fun
  | [d1, d2] => { results := [.lit (.bool false)], args := [d1, d2] }
  | _ => none }
def FnExactSameRepliesWrongFalsely : Prop := fnExactSameRepliesRow.holds Try.pinned (OpenSpec.ofChange fnExactSameRepliesWrong)

/-- 'laws.FnExactTableNew': WHATEVER THE INPUT: true; the input reads as it did. -/
def fnExactTableNewSpec : ChangeSpec := { name := "fnExactTableNew", fn := fun _ => fun
  | [] => { results := [.lit (.bool true)], args := [] }
  | _ => none }
def fnExactTableNewRow : OpenClaim := { program := "ytlmpbngndcagbaa", sum := "30a8e143b048be31648dbfc6e109dddefaccaa2fa72e784fd76d77080406a6ae", func := "loop.example/g00724/laws.FnExactTableNew", spec := "fnExactTableNew", apart := false }
def FnExactTableNewSaid : Prop := fnExactTableNewRow.holds Try.pinned (OpenSpec.ofChange fnExactTableNewSpec)

/-- ITS FALSE NEIGHBOUR: 'it returns false'. Refute it at one input. -/
def fnExactTableNewWrong : ChangeSpec := { name := "fnExactTableNew", fn := fun _ => fun
  | [] => { results := [.lit (.bool false)], args := [] }
  | _ => none }
def FnExactTableNewWrongFalsely : Prop := fnExactTableNewRow.holds Try.pinned (OpenSpec.ofChange fnExactTableNewWrong)

/-- 'laws.FnExactScript': WHATEVER THE INPUT: true; the input reads as it did. -/
def fnExactScriptSpec : ChangeSpec := { name := "fnExactScript", fn := fun _ => fun
  | [d] => { results := [.lit (.bool true)], args := [d] }
  | _ => none }
def fnExactScriptRow : OpenClaim := { program := "ytlmpbngndcagbaa", sum := "30a8e143b048be31648dbfc6e109dddefaccaa2fa72e784fd76d77080406a6ae", func := "loop.example/g00724/laws.FnExactScript", spec := "fnExactScript", apart := false }
def FnExactScriptSaid : Prop := fnExactScriptRow.holds Try.pinned (OpenSpec.ofChange fnExactScriptSpec)

/-- ITS FALSE NEIGHBOUR: 'it returns false'. Refute it at one input. -/
def fnExactScriptWrong : ChangeSpec := { name := "fnExactScript", fn := fun _ => fun
  | [d] => { results := [.lit (.bool false)], args := [d] }
  | _ => none }
def FnExactScriptWrongFalsely : Prop := fnExactScriptRow.holds Try.pinned (OpenSpec.ofChange fnExactScriptWrong)

/-- 'laws.FnExactAlike': WHATEVER THE INPUT: true; the input reads as it did. -/
def fnExactAlikeSpec : ChangeSpec := { name := "fnExactAlike", fn := fun _ => fun
  | [d1, d2] => { results := [.lit (.bool true)], args := [d1, d2] }
  | _ => none }
def fnExactAlikeRow : OpenClaim := { program := "ytlmpbngndcagbaa", sum := "30a8e143b048be31648dbfc6e109dddefaccaa2fa72e784fd76d77080406a6ae", func := "loop.example/g00724/laws.FnExactAlike", spec := "fnExactAlike", apart := false }
def FnExactAlikeSaid : Prop := fnExactAlikeRow.holds Try.pinned (OpenSpec.ofChange fnExactAlikeSpec)

/-- ITS FALSE NEIGHBOUR: 'it returns false'. Refute it at one input. -/
def fnExactAlikeWrong : ChangeSpec := { name := "fnExactAlike", fn := fun _ => fun
  | [d1, d2] => { results := [.lit (.bool false)], args := [d1, d2] }
  | _ => none }
def FnExactAlikeWrongFalsely : Prop := fnExactAlikeRow.holds Try.pinned (OpenSpec.ofChange fnExactAlikeWrong)

/-- 'laws.FnExactItemText': WHATEVER THE INPUT: true; the input reads as it did. -/
def fnExactItemTextSpec : ChangeSpec := { name := "fnExactItemText", fn := fun _ => fun
  | [d] => { results := [.lit (.bool true)], args := [d] }
  | _ => none }
def fnExactItemTextRow : OpenClaim := { program := "ytlmpbngndcagbaa", sum := "30a8e143b048be31648dbfc6e109dddefaccaa2fa72e784fd76d77080406a6ae", func := "loop.example/g00724/laws.FnExactItemText", spec := "fnExactItemText", inPlace := ["internal/bytealg.IndexByteString", "internal/bytealg.IndexString"], recurses := true, named := ["internal/bytealg.MaxLen"], apart := false }
def FnExactItemTextSaid : Prop := fnExactItemTextRow.holds Try.pinned (OpenSpec.ofChange fnExactItemTextSpec)

/-- ITS FALSE NEIGHBOUR: 'it returns false'. Refute it at one input. -/
def fnExactItemTextWrong : ChangeSpec := { name := "fnExactItemText", fn := fun _ => fun
  | [d] => { results := [.lit (.bool false)], args := [d] }
  | _ => none }
def FnExactItemTextWrongFalsely : Prop := fnExactItemTextRow.holds Try.pinned (OpenSpec.ofChange fnExactItemTextWrong)

/-- 'laws.FnExactBenchNew': WHATEVER THE INPUT: true; the input reads as it did. -/
def fnExactBenchNewSpec : ChangeSpec := { name := "fnExactBenchNew", fn := fun _ => fun
  | [] => { results := [.lit (.bool true)], args := [] }
  | _ => none }
def fnExactBenchNewRow : OpenClaim := { program := "ytlmpbngndcagbaa", sum := "30a8e143b048be31648dbfc6e109dddefaccaa2fa72e784fd76d77080406a6ae", func := "loop.example/g00724/laws.FnExactBenchNew", spec := "fnExactBenchNew", apart := false }
def FnExactBenchNewSaid : Prop := fnExactBenchNewRow.holds Try.pinned (OpenSpec.ofChange fnExactBenchNewSpec)

/-- ITS FALSE NEIGHBOUR: 'it returns false'. Refute it at one input. -/
def fnExactBenchNewWrong : ChangeSpec := { name := "fnExactBenchNew", fn := fun _ => fun
  | [] => { results := [.lit (.bool false)], args := [] }
  | _ => none }
def FnExactBenchNewWrongFalsely : Prop := fnExactBenchNewRow.holds Try.pinned (OpenSpec.ofChange fnExactBenchNewWrong)

/-- 'laws.FnExactCmdText': WHATEVER THE INPUT: true; the input reads as it did. -/
def fnExactCmdTextSpec : ChangeSpec := { name := "fnExactCmdText", fn := fun _ => fun
  | [d] => { results := [.lit (.bool true)], args := [d] }
  | _ => none }
def fnExactCmdTextRow : OpenClaim := { program := "ytlmpbngndcagbaa", sum := "30a8e143b048be31648dbfc6e109dddefaccaa2fa72e784fd76d77080406a6ae", func := "loop.example/g00724/laws.FnExactCmdText", spec := "fnExactCmdText", recurses := true, apart := false }
def FnExactCmdTextSaid : Prop := fnExactCmdTextRow.holds Try.pinned (OpenSpec.ofChange fnExactCmdTextSpec)

/-- ITS FALSE NEIGHBOUR: 'it returns false'. Refute it at one input. -/
def fnExactCmdTextWrong : ChangeSpec := { name := "fnExactCmdText", fn := fun _ => fun
  | [d] => { results := [.lit (.bool false)], args := [d] }
  | _ => none }
def FnExactCmdTextWrongFalsely : Prop := fnExactCmdTextRow.holds Try.pinned (OpenSpec.ofChange fnExactCmdTextWrong)

/- THE SECOND FORM. 'bulk': how many values and letters a reading holds, each counted each time it is reached (what is shared counts as often as it is met; a slice's spare places count too). A statement '..UptoSaid' is the law's where the arguments, and the package variables that the reading takes, are together of bulk at most 1048576: NARROWER than '..Said'. Prove '..Said' where nothing that the law and all that it calls make is longer than what came in: it says more and counts as full. Else prove '..UptoSaid'. A law counts once. -/
mutual
def uptoBulk {H : Type} : DataW H → Nat
  | .lit (.string bytes) => bytes.length + 1
  | .lit _ => 1
  | .nil => 1
  | .ptr d => uptoBulk d + 1
  | .slice elems spare => uptoBulkAll elems + uptoBulkAll spare + 1
  | .agg parts => uptoBulkAll parts + 1
  | .iface _ d => uptoBulk d + 1
  | .map entries => uptoBulkEntries entries + 1
  | .held _ => 1
def uptoBulkAll {H : Type} : List (DataW H) → Nat
  | [] => 0
  | d :: r => uptoBulk d + uptoBulkAll r
def uptoBulkEntries {H : Type} : List (Lit × DataW H) → Nat
  | [] => 0
  | x :: r => uptoBulkEntry x + uptoBulkEntries r
def uptoBulkEntry {H : Type} : Lit × DataW H → Nat
  | (.string bytes, d) => bytes.length + uptoBulk d + 1
  | (_, d) => uptoBulk d + 1
 end
def uptoSmall : (H : Type) → List (DataW H) → Bool := fun _ ds => decide (uptoBulkAll ds ≤ 1048576)
def OpenSpec.upto (s : _root_.Go.ChangeSpec) : _root_.Go.OpenSpec := { _root_.Go.OpenSpec.ofChange s with cond := some uptoSmall }

/-- 'laws.FnExactSameReplies', WHERE WHAT IT READS IS OF BULK AT MOST 1048576: true; the input reads as it did. -/
def fnExactSameRepliesUptoRow : OpenClaim := { program := "ytlmpbngndcagbaa", sum := "30a8e143b048be31648dbfc6e109dddefaccaa2fa72e784fd76d77080406a6ae", func := "loop.example/g00724/laws.FnExactSameReplies", spec := "fnExactSameReplies", apart := false, narrowed := true }
def FnExactSameRepliesUptoSaid : Prop := fnExactSameRepliesUptoRow.holds Try.pinned (OpenSpec.upto fnExactSameRepliesSpec)

/-- 'laws.FnExactTableNew', WHERE WHAT IT READS IS OF BULK AT MOST 1048576: true; the input reads as it did. -/
def fnExactTableNewUptoRow : OpenClaim := { program := "ytlmpbngndcagbaa", sum := "30a8e143b048be31648dbfc6e109dddefaccaa2fa72e784fd76d77080406a6ae", func := "loop.example/g00724/laws.FnExactTableNew", spec := "fnExactTableNew", apart := false, narrowed := true }
def FnExactTableNewUptoSaid : Prop := fnExactTableNewUptoRow.holds Try.pinned (OpenSpec.upto fnExactTableNewSpec)

/-- 'laws.FnExactScript', WHERE WHAT IT READS IS OF BULK AT MOST 1048576: true; the input reads as it did. -/
def fnExactScriptUptoRow : OpenClaim := { program := "ytlmpbngndcagbaa", sum := "30a8e143b048be31648dbfc6e109dddefaccaa2fa72e784fd76d77080406a6ae", func := "loop.example/g00724/laws.FnExactScript", spec := "fnExactScript", apart := false, narrowed := true }
def FnExactScriptUptoSaid : Prop := fnExactScriptUptoRow.holds Try.pinned (OpenSpec.upto fnExactScriptSpec)

/-- 'laws.FnExactAlike', WHERE WHAT IT READS IS OF BULK AT MOST 1048576: true; the input reads as it did. -/
def fnExactAlikeUptoRow : OpenClaim := { program := "ytlmpbngndcagbaa", sum := "30a8e143b048be31648dbfc6e109dddefaccaa2fa72e784fd76d77080406a6ae", func := "loop.example/g00724/laws.FnExactAlike", spec := "fnExactAlike", apart := false, narrowed := true }
def FnExactAlikeUptoSaid : Prop := fnExactAlikeUptoRow.holds Try.pinned (OpenSpec.upto fnExactAlikeSpec)

/-- 'laws.FnExactItemText', WHERE WHAT IT READS IS OF BULK AT MOST 1048576: true; the input reads as it did. -/
def fnExactItemTextUptoRow : OpenClaim := { program := "ytlmpbngndcagbaa", sum := "30a8e143b048be31648dbfc6e109dddefaccaa2fa72e784fd76d77080406a6ae", func := "loop.example/g00724/laws.FnExactItemText", spec := "fnExactItemText", inPlace := ["internal/bytealg.IndexByteString", "internal/bytealg.IndexString"], recurses := true, named := ["internal/bytealg.MaxLen"], apart := false, narrowed := true }
def FnExactItemTextUptoSaid : Prop := fnExactItemTextUptoRow.holds Try.pinned (OpenSpec.upto fnExactItemTextSpec)

/-- 'laws.FnExactBenchNew', WHERE WHAT IT READS IS OF BULK AT MOST 1048576: true; the input reads as it did. -/
def fnExactBenchNewUptoRow : OpenClaim := { program := "ytlmpbngndcagbaa", sum := "30a8e143b048be31648dbfc6e109dddefaccaa2fa72e784fd76d77080406a6ae", func := "loop.example/g00724/laws.FnExactBenchNew", spec := "fnExactBenchNew", apart := false, narrowed := true }
def FnExactBenchNewUptoSaid : Prop := fnExactBenchNewUptoRow.holds Try.pinned (OpenSpec.upto fnExactBenchNewSpec)

/-- 'laws.FnExactCmdText', WHERE WHAT IT READS IS OF BULK AT MOST 1048576: true; the input reads as it did. -/
def fnExactCmdTextUptoRow : OpenClaim := { program := "ytlmpbngndcagbaa", sum := "30a8e143b048be31648dbfc6e109dddefaccaa2fa72e784fd76d77080406a6ae", func := "loop.example/g00724/laws.FnExactCmdText", spec := "fnExactCmdText", recurses := true, apart := false, narrowed := true }
def FnExactCmdTextUptoSaid : Prop := fnExactCmdTextUptoRow.holds Try.pinned (OpenSpec.upto fnExactCmdTextSpec)

end Rows
end Go.Proofs.Ytlmpbngndcagbaa
