/-
  No cell of these rows narrows 'for every input' (looked for: loops, veiled, ifaces, maps, wideKeys, modest, calm, conditions, laid).
  DERIVED. THE GIVEN ROWS OF THIS SEAT. 3 by the template 'for every input the law returns true; each argument reads behind the call as it read before'; 0 by the template 'total and deterministic' (their statements: YtnlnifpehndacaaTotals.lean).
  GIVEN WITH THE SEED: the statements are not yours to turn. If you find one false, say at which input.
  Laid BY PROGRAM, IN A SANDBOX (cutbox-rows.mjs): the forced cells as the released guide's own fill.sh prints them over the translation 9d141b58deb08b2f… (all of the seat's roots in one cut). By AI agents, Wed Nov 11 2026. No macro, syntax, notation, axiom, sorry.
-/
import Derived.Test.YtnlnifpehndacaaChecked
import GoSem.Claim
import GoSem.ClaimJoined
import GoSem.ClaimMapViews
import Derived.JoinedTies
import Derived.KernelRfl
namespace Go.Proofs.Ytnlnifpehndacaa
/- THE CELL 'sum', in the pinned program and in every row, IS THE sha256 OF THE DUMP (.gsa) THAT YtnlnifpehndacaaProg.lean LOADS. Nothing in Lean hashes anything: it is a label: what it is worth is what the hold of that sum in a sandbox is worth. -/
noncomputable def Try.pinned : Pinned := { name := "ytnlnifpehndacaa", sum := "9d141b58deb08b2f4a20ba314f97139746959bc0ddaf75d05a8ef26acc721a69", checked := Try.checked }
namespace Rows
def none {H : Type} : Left H := { results := [], args := [] }

/-- 'laws.FnExactTextThree': WHATEVER THE INPUT: true; the input reads as it did. -/
def fnExactTextThreeSpec : ChangeSpec := { name := "fnExactTextThree", fn := fun _ => fun
  | [d] => { results := [.lit (.bool true)], args := [d] }
  | _ => none }
def fnExactTextThreeRow : OpenClaim := { program := "ytnlnifpehndacaa", sum := "9d141b58deb08b2f4a20ba314f97139746959bc0ddaf75d05a8ef26acc721a69", func := "loop.example/g00724/laws.FnExactTextThree", spec := "fnExactTextThree", inPlace := ["internal/bytealg.IndexByteString", "internal/bytealg.IndexString"], unfollowed := true, recurses := true, named := ["internal/bytealg.MaxLen"], apart := false }
def FnExactTextThreeSaid : Prop := fnExactTextThreeRow.holds Try.pinned (OpenSpec.ofChange fnExactTextThreeSpec)

/-- ITS FALSE NEIGHBOUR: 'it returns false'. Refute it at one input. -/
def fnExactTextThreeWrong : ChangeSpec := { name := "fnExactTextThree", fn := fun _ => fun
  | [d] => { results := [.lit (.bool false)], args := [d] }
  | _ => none }
def FnExactTextThreeWrongFalsely : Prop := fnExactTextThreeRow.holds Try.pinned (OpenSpec.ofChange fnExactTextThreeWrong)

/-- 'laws.FnExactTextCmd': WHATEVER THE INPUT: true; the input reads as it did. -/
def fnExactTextCmdSpec : ChangeSpec := { name := "fnExactTextCmd", fn := fun _ => fun
  | [d] => { results := [.lit (.bool true)], args := [d] }
  | _ => none }
def fnExactTextCmdRow : OpenClaim := { program := "ytnlnifpehndacaa", sum := "9d141b58deb08b2f4a20ba314f97139746959bc0ddaf75d05a8ef26acc721a69", func := "loop.example/g00724/laws.FnExactTextCmd", spec := "fnExactTextCmd", recurses := true, apart := false }
def FnExactTextCmdSaid : Prop := fnExactTextCmdRow.holds Try.pinned (OpenSpec.ofChange fnExactTextCmdSpec)

/-- ITS FALSE NEIGHBOUR: 'it returns false'. Refute it at one input. -/
def fnExactTextCmdWrong : ChangeSpec := { name := "fnExactTextCmd", fn := fun _ => fun
  | [d] => { results := [.lit (.bool false)], args := [d] }
  | _ => none }
def FnExactTextCmdWrongFalsely : Prop := fnExactTextCmdRow.holds Try.pinned (OpenSpec.ofChange fnExactTextCmdWrong)

/-- 'laws.FnExactMend': WHATEVER THE INPUT: true; the input reads as it did. -/
def fnExactMendSpec : ChangeSpec := { name := "fnExactMend", fn := fun _ => fun
  | [d1, d2] => { results := [.lit (.bool true)], args := [d1, d2] }
  | _ => none }
def fnExactMendRow : OpenClaim := { program := "ytnlnifpehndacaa", sum := "9d141b58deb08b2f4a20ba314f97139746959bc0ddaf75d05a8ef26acc721a69", func := "loop.example/g00724/laws.FnExactMend", spec := "fnExactMend", inPlace := ["internal/bytealg.IndexByteString", "internal/bytealg.IndexString"], unfollowed := true, recurses := true, named := ["internal/bytealg.MaxLen"], apart := false }
def FnExactMendSaid : Prop := fnExactMendRow.holds Try.pinned (OpenSpec.ofChange fnExactMendSpec)

/-- ITS FALSE NEIGHBOUR: 'it returns false'. Refute it at one input. -/
def fnExactMendWrong : ChangeSpec := { name := "fnExactMend", fn := fun _ => fun
  | [d1, d2] => { results := [.lit (.bool false)], args := [d1, d2] }
  | _ => none }
def FnExactMendWrongFalsely : Prop := fnExactMendRow.holds Try.pinned (OpenSpec.ofChange fnExactMendWrong)

/- THE SECOND FORM. 'bulk': how many values and letters a reading holds, each counted each time it is reached (what is shared counts as often as it is met; a slice's spare places count too). A statement '..UptoSaid' is the law's where the arguments, and the package variables that the reading takes, are together of bulk at most 1048576: NARROWER than '..Said'. Prove '..Said' where nothing that the law and all that it calls make is longer than what came in: it says more and counts as full. Else prove '..UptoSaid'. A law counts once. -/
mutual
def uptoBulk {H : Type} : DataW H → Nat
  | .lit (.string bytes) => bytes.length + 1
  | .lit _ => 1
  | .nil => 1
  | .ptr d => uptoBulk d + 1
  | .slice elems spare => uptoBulkAll elems + uptoBulkAll spare + 1
  | .agg parts => uptoBulkAll parts + 1
  | .iface _ d => uptoBulk d + 1
  | .map entries => uptoBulkEntries entries + 1
  | .held _ => 1
def uptoBulkAll {H : Type} : List (DataW H) → Nat
  | [] => 0
  | d :: r => uptoBulk d + uptoBulkAll r
def uptoBulkEntries {H : Type} : List (Lit × DataW H) → Nat
  | [] => 0
  | x :: r => uptoBulkEntry x + uptoBulkEntries r
def uptoBulkEntry {H : Type} : Lit × DataW H → Nat
  | (.string bytes, d) => bytes.length + uptoBulk d + 1
  | (_, d) => uptoBulk d + 1
 end
def uptoSmall : (H : Type) → List (DataW H) → Bool := fun _ ds => decide (uptoBulkAll ds ≤ 1048576)
def OpenSpec.upto (s : _root_.Go.ChangeSpec) : _root_.Go.OpenSpec := { _root_.Go.OpenSpec.ofChange s with cond := some uptoSmall }

/-- 'laws.FnExactTextThree', WHERE WHAT IT READS IS OF BULK AT MOST 1048576: true; the input reads as it did. -/
def fnExactTextThreeUptoRow : OpenClaim := { program := "ytnlnifpehndacaa", sum := "9d141b58deb08b2f4a20ba314f97139746959bc0ddaf75d05a8ef26acc721a69", func := "loop.example/g00724/laws.FnExactTextThree", spec := "fnExactTextThree", inPlace := ["internal/bytealg.IndexByteString", "internal/bytealg.IndexString"], unfollowed := true, recurses := true, named := ["internal/bytealg.MaxLen"], apart := false, narrowed := true }
def FnExactTextThreeUptoSaid : Prop := fnExactTextThreeUptoRow.holds Try.pinned (OpenSpec.upto fnExactTextThreeSpec)

/-- 'laws.FnExactTextCmd', WHERE WHAT IT READS IS OF BULK AT MOST 1048576: true; the input reads as it did. -/
def fnExactTextCmdUptoRow : OpenClaim := { program := "ytnlnifpehndacaa", sum := "9d141b58deb08b2f4a20ba314f97139746959bc0ddaf75d05a8ef26acc721a69", func := "loop.example/g00724/laws.FnExactTextCmd", spec := "fnExactTextCmd", recurses := true, apart := false, narrowed := true }
def FnExactTextCmdUptoSaid : Prop := fnExactTextCmdUptoRow.holds Try.pinned (OpenSpec.upto fnExactTextCmdSpec)

/-- 'laws.FnExactMend', WHERE WHAT IT READS IS OF BULK AT MOST 1048576: true; the input reads as it did. -/
def fnExactMendUptoRow : OpenClaim := { program := "ytnlnifpehndacaa", sum := "9d141b58deb08b2f4a20ba314f97139746959bc0ddaf75d05a8ef26acc721a69", func := "loop.example/g00724/laws.FnExactMend", spec := "fnExactMend", inPlace := ["internal/bytealg.IndexByteString", "internal/bytealg.IndexString"], unfollowed := true, recurses := true, named := ["internal/bytealg.MaxLen"], apart := false, narrowed := true }
def FnExactMendUptoSaid : Prop := fnExactMendUptoRow.holds Try.pinned (OpenSpec.upto fnExactMendSpec)

end Rows
end Go.Proofs.Ytnlnifpehndacaa
