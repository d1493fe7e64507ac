/-
  No cell of these rows narrows 'for every input' (looked for: loops, veiled, ifaces, maps, wideKeys, modest, calm, conditions, laid).
  DERIVED. THE GIVEN ROWS OF THIS SEAT. 10 by the template 'for every input the law returns true; each argument reads behind the call as it read before'; 0 by the template 'total and deterministic' (their statements: YtmbfjhhlpnjeoaaTotals.lean).
  GIVEN WITH THE SEED: the statements are not yours to turn. If you find one false, say at which input.
  Laid BY PROGRAM, IN A SANDBOX (cutbox-rows.mjs): the forced cells as the released guide's own fill.sh prints them over the translation 227d6d7f327977c1… (all of the seat's roots in one cut). By AI agents, Wed Nov 11 2026. No macro, syntax, notation, axiom, sorry.
-/
import Derived.Test.YtmbfjhhlpnjeoaaChecked
import GoSem.Claim
import GoSem.ClaimJoined
import GoSem.ClaimMapViews
import Derived.JoinedTies
import Derived.KernelRfl
namespace Go.Proofs.Ytmbfjhhlpnjeoaa
/- THE CELL 'sum', in the pinned program and in every row, IS THE sha256 OF THE DUMP (.gsa) THAT YtmbfjhhlpnjeoaaProg.lean LOADS. Nothing in Lean hashes anything: it is a label: what it is worth is what the hold of that sum in a sandbox is worth. -/
noncomputable def Try.pinned : Pinned := { name := "ytmbfjhhlpnjeoaa", sum := "227d6d7f327977c1231c8e418f85131b90e2164ea78ea7a627c824263e5d579e", checked := Try.checked }
namespace Rows
def none {H : Type} : Left H := { results := [], args := [] }

/-- 'laws.FnExactTextItem': WHATEVER THE INPUT: true; the input reads as it did. -/
def fnExactTextItemSpec : ChangeSpec := { name := "fnExactTextItem", fn := fun _ => fun
  | [d] => { results := [.lit (.bool true)], args := [d] }
  | _ => none }
def fnExactTextItemRow : OpenClaim := { program := "ytmbfjhhlpnjeoaa", sum := "227d6d7f327977c1231c8e418f85131b90e2164ea78ea7a627c824263e5d579e", func := "loop.example/g00724/laws.FnExactTextItem", spec := "fnExactTextItem", inPlace := ["internal/bytealg.IndexByteString", "internal/bytealg.IndexString"], recurses := true, named := ["internal/bytealg.MaxLen"], apart := false }
def FnExactTextItemSaid : Prop := fnExactTextItemRow.holds Try.pinned (OpenSpec.ofChange fnExactTextItemSpec)

/-- ITS FALSE NEIGHBOUR: 'it returns false'. Refute it at one input. -/
def fnExactTextItemWrong : ChangeSpec := { name := "fnExactTextItem", fn := fun _ => fun
  | [d] => { results := [.lit (.bool false)], args := [d] }
  | _ => none }
def FnExactTextItemWrongFalsely : Prop := fnExactTextItemRow.holds Try.pinned (OpenSpec.ofChange fnExactTextItemWrong)

/-- 'laws.FnExactTextCmd': WHATEVER THE INPUT: true; the input reads as it did. -/
def fnExactTextCmdSpec : ChangeSpec := { name := "fnExactTextCmd", fn := fun _ => fun
  | [d] => { results := [.lit (.bool true)], args := [d] }
  | _ => none }
def fnExactTextCmdRow : OpenClaim := { program := "ytmbfjhhlpnjeoaa", sum := "227d6d7f327977c1231c8e418f85131b90e2164ea78ea7a627c824263e5d579e", func := "loop.example/g00724/laws.FnExactTextCmd", spec := "fnExactTextCmd", recurses := true, apart := false }
def FnExactTextCmdSaid : Prop := fnExactTextCmdRow.holds Try.pinned (OpenSpec.ofChange fnExactTextCmdSpec)

/-- ITS FALSE NEIGHBOUR: 'it returns false'. Refute it at one input. -/
def fnExactTextCmdWrong : ChangeSpec := { name := "fnExactTextCmd", fn := fun _ => fun
  | [d] => { results := [.lit (.bool false)], args := [d] }
  | _ => none }
def FnExactTextCmdWrongFalsely : Prop := fnExactTextCmdRow.holds Try.pinned (OpenSpec.ofChange fnExactTextCmdWrong)

/-- 'laws.FnExactThreeText': WHATEVER THE INPUT: true; the input reads as it did. -/
def fnExactThreeTextSpec : ChangeSpec := { name := "fnExactThreeText", fn := fun _ => fun
  | [d] => { results := [.lit (.bool true)], args := [d] }
  | _ => none }
def fnExactThreeTextRow : OpenClaim := { program := "ytmbfjhhlpnjeoaa", sum := "227d6d7f327977c1231c8e418f85131b90e2164ea78ea7a627c824263e5d579e", func := "loop.example/g00724/laws.FnExactThreeText", spec := "fnExactThreeText", inPlace := ["internal/bytealg.IndexByteString", "internal/bytealg.IndexString"], unfollowed := true, recurses := true, named := ["internal/bytealg.MaxLen"], apart := false }
def FnExactThreeTextSaid : Prop := fnExactThreeTextRow.holds Try.pinned (OpenSpec.ofChange fnExactThreeTextSpec)

/-- ITS FALSE NEIGHBOUR: 'it returns false'. Refute it at one input. -/
def fnExactThreeTextWrong : ChangeSpec := { name := "fnExactThreeText", fn := fun _ => fun
  | [d] => { results := [.lit (.bool false)], args := [d] }
  | _ => none }
def FnExactThreeTextWrongFalsely : Prop := fnExactThreeTextRow.holds Try.pinned (OpenSpec.ofChange fnExactThreeTextWrong)

/-- 'laws.FnExactDigest': WHATEVER THE INPUT: true; the input reads as it did. -/
def fnExactDigestSpec : ChangeSpec := { name := "fnExactDigest", fn := fun _ => fun
  | [d] => { results := [.lit (.bool true)], args := [d] }
  | _ => none }
def fnExactDigestRow : OpenClaim := { program := "ytmbfjhhlpnjeoaa", sum := "227d6d7f327977c1231c8e418f85131b90e2164ea78ea7a627c824263e5d579e", func := "loop.example/g00724/laws.FnExactDigest", spec := "fnExactDigest", inPlace := ["internal/bytealg.IndexByteString", "internal/bytealg.IndexString"], unfollowed := true, recurses := true, named := ["internal/bytealg.MaxLen"], apart := false }
def FnExactDigestSaid : Prop := fnExactDigestRow.holds Try.pinned (OpenSpec.ofChange fnExactDigestSpec)

/-- ITS FALSE NEIGHBOUR: 'it returns false'. Refute it at one input. -/
def fnExactDigestWrong : ChangeSpec := { name := "fnExactDigest", fn := fun _ => fun
  | [d] => { results := [.lit (.bool false)], args := [d] }
  | _ => none }
def FnExactDigestWrongFalsely : Prop := fnExactDigestRow.holds Try.pinned (OpenSpec.ofChange fnExactDigestWrong)

/-- 'laws.FnExactReadCmds': WHATEVER THE INPUT: true; the input reads as it did. -/
def fnExactReadCmdsSpec : ChangeSpec := { name := "fnExactReadCmds", fn := fun _ => fun
  | [d] => { results := [.lit (.bool true)], args := [d] }
  | _ => none }
def fnExactReadCmdsRow : OpenClaim := { program := "ytmbfjhhlpnjeoaa", sum := "227d6d7f327977c1231c8e418f85131b90e2164ea78ea7a627c824263e5d579e", func := "loop.example/g00724/laws.FnExactReadCmds", spec := "fnExactReadCmds", recurses := true, apart := false }
def FnExactReadCmdsSaid : Prop := fnExactReadCmdsRow.holds Try.pinned (OpenSpec.ofChange fnExactReadCmdsSpec)

/-- ITS FALSE NEIGHBOUR: 'it returns false'. Refute it at one input. -/
def fnExactReadCmdsWrong : ChangeSpec := { name := "fnExactReadCmds", fn := fun _ => fun
  | [d] => { results := [.lit (.bool false)], args := [d] }
  | _ => none }
def FnExactReadCmdsWrongFalsely : Prop := fnExactReadCmdsRow.holds Try.pinned (OpenSpec.ofChange fnExactReadCmdsWrong)

/-- 'laws.FnExactPlaceOf': WHATEVER THE INPUT: true; the input reads as it did. -/
def fnExactPlaceOfSpec : ChangeSpec := { name := "fnExactPlaceOf", fn := fun _ => fun
  | [d1, d2] => { results := [.lit (.bool true)], args := [d1, d2] }
  | _ => none }
def fnExactPlaceOfRow : OpenClaim := { program := "ytmbfjhhlpnjeoaa", sum := "227d6d7f327977c1231c8e418f85131b90e2164ea78ea7a627c824263e5d579e", func := "loop.example/g00724/laws.FnExactPlaceOf", spec := "fnExactPlaceOf", apart := false }
def FnExactPlaceOfSaid : Prop := fnExactPlaceOfRow.holds Try.pinned (OpenSpec.ofChange fnExactPlaceOfSpec)

/-- ITS FALSE NEIGHBOUR: 'it returns false'. Refute it at one input. -/
def fnExactPlaceOfWrong : ChangeSpec := { name := "fnExactPlaceOf", fn := fun _ => fun
  | [d1, d2] => { results := [.lit (.bool false)], args := [d1, d2] }
  | _ => none }
def FnExactPlaceOfWrongFalsely : Prop := fnExactPlaceOfRow.holds Try.pinned (OpenSpec.ofChange fnExactPlaceOfWrong)

/-- 'laws.FnExactTextThree': WHATEVER THE INPUT: true; the input reads as it did. -/
def fnExactTextThreeSpec : ChangeSpec := { name := "fnExactTextThree", fn := fun _ => fun
  | [d] => { results := [.lit (.bool true)], args := [d] }
  | _ => none }
def fnExactTextThreeRow : OpenClaim := { program := "ytmbfjhhlpnjeoaa", sum := "227d6d7f327977c1231c8e418f85131b90e2164ea78ea7a627c824263e5d579e", func := "loop.example/g00724/laws.FnExactTextThree", spec := "fnExactTextThree", inPlace := ["internal/bytealg.IndexByteString", "internal/bytealg.IndexString"], unfollowed := true, recurses := true, named := ["internal/bytealg.MaxLen"], apart := false }
def FnExactTextThreeSaid : Prop := fnExactTextThreeRow.holds Try.pinned (OpenSpec.ofChange fnExactTextThreeSpec)

/-- ITS FALSE NEIGHBOUR: 'it returns false'. Refute it at one input. -/
def fnExactTextThreeWrong : ChangeSpec := { name := "fnExactTextThree", fn := fun _ => fun
  | [d] => { results := [.lit (.bool false)], args := [d] }
  | _ => none }
def FnExactTextThreeWrongFalsely : Prop := fnExactTextThreeRow.holds Try.pinned (OpenSpec.ofChange fnExactTextThreeWrong)

/-- 'laws.FnExactBusy': WHATEVER THE INPUT: true; the input reads as it did. -/
def fnExactBusySpec : ChangeSpec := { name := "fnExactBusy", fn := fun _ => fun
  | [d] => { results := [.lit (.bool true)], args := [d] }
  | _ => none }
def fnExactBusyRow : OpenClaim := { program := "ytmbfjhhlpnjeoaa", sum := "227d6d7f327977c1231c8e418f85131b90e2164ea78ea7a627c824263e5d579e", func := "loop.example/g00724/laws.FnExactBusy", spec := "fnExactBusy", apart := false }
def FnExactBusySaid : Prop := fnExactBusyRow.holds Try.pinned (OpenSpec.ofChange fnExactBusySpec)

/-- ITS FALSE NEIGHBOUR: 'it returns false'. Refute it at one input. -/
def fnExactBusyWrong : ChangeSpec := { name := "fnExactBusy", fn := fun _ => fun
  | [d] => { results := [.lit (.bool false)], args := [d] }
  | _ => none }
def FnExactBusyWrongFalsely : Prop := fnExactBusyRow.holds Try.pinned (OpenSpec.ofChange fnExactBusyWrong)

/-- 'laws.FnExactRepliesOf': WHATEVER THE INPUT: true; the input reads as it did. -/
def fnExactRepliesOfSpec : ChangeSpec := { name := "fnExactRepliesOf", fn := fun _ => fun
  | [d1, d2] => { results := [.lit (.bool true)], args := [d1, d2] }
  | _ => none }
def fnExactRepliesOfRow : OpenClaim := { program := "ytmbfjhhlpnjeoaa", sum := "227d6d7f327977c1231c8e418f85131b90e2164ea78ea7a627c824263e5d579e", func := "loop.example/g00724/laws.FnExactRepliesOf", spec := "fnExactRepliesOf", apart := false }
def FnExactRepliesOfSaid : Prop := fnExactRepliesOfRow.holds Try.pinned (OpenSpec.ofChange fnExactRepliesOfSpec)

/-- ITS FALSE NEIGHBOUR: 'it returns false'. Refute it at one input. -/
def fnExactRepliesOfWrong : ChangeSpec := { name := "fnExactRepliesOf", fn := fun _ => fun
  | [d1, d2] => { results := [.lit (.bool false)], args := [d1, d2] }
  | _ => none }
def FnExactRepliesOfWrongFalsely : Prop := fnExactRepliesOfRow.holds Try.pinned (OpenSpec.ofChange fnExactRepliesOfWrong)

/-- 'laws.FnExactMend': WHATEVER THE INPUT: true; the input reads as it did. -/
def fnExactMendSpec : ChangeSpec := { name := "fnExactMend", fn := fun _ => fun
  | [d1, d2] => { results := [.lit (.bool true)], args := [d1, d2] }
  | _ => none }
def fnExactMendRow : OpenClaim := { program := "ytmbfjhhlpnjeoaa", sum := "227d6d7f327977c1231c8e418f85131b90e2164ea78ea7a627c824263e5d579e", func := "loop.example/g00724/laws.FnExactMend", spec := "fnExactMend", inPlace := ["internal/bytealg.IndexByteString", "internal/bytealg.IndexString"], unfollowed := true, recurses := true, named := ["internal/bytealg.MaxLen"], apart := false }
def FnExactMendSaid : Prop := fnExactMendRow.holds Try.pinned (OpenSpec.ofChange fnExactMendSpec)

/-- ITS FALSE NEIGHBOUR: 'it returns false'. Refute it at one input. -/
def fnExactMendWrong : ChangeSpec := { name := "fnExactMend", fn := fun _ => fun
  | [d1, d2] => { results := [.lit (.bool false)], args := [d1, d2] }
  | _ => none }
def FnExactMendWrongFalsely : Prop := fnExactMendRow.holds Try.pinned (OpenSpec.ofChange fnExactMendWrong)

/- THE SECOND FORM. 'bulk': how many values and letters a reading holds, each counted each time it is reached (what is shared counts as often as it is met; a slice's spare places count too). A statement '..UptoSaid' is the law's where the arguments, and the package variables that the reading takes, are together of bulk at most 1048576: NARROWER than '..Said'. Prove '..Said' where nothing that the law and all that it calls make is longer than what came in: it says more and counts as full. Else prove '..UptoSaid'. A law counts once. -/
mutual
def uptoBulk {H : Type} : DataW H → Nat
  | .lit (.string bytes) => bytes.length + 1
  | .lit _ => 1
  | .nil => 1
  | .ptr d => uptoBulk d + 1
  | .slice elems spare => uptoBulkAll elems + uptoBulkAll spare + 1
  | .agg parts => uptoBulkAll parts + 1
  | .iface _ d => uptoBulk d + 1
  | .map entries => uptoBulkEntries entries + 1
  | .held _ => 1
def uptoBulkAll {H : Type} : List (DataW H) → Nat
  | [] => 0
  | d :: r => uptoBulk d + uptoBulkAll r
def uptoBulkEntries {H : Type} : List (Lit × DataW H) → Nat
  | [] => 0
  | x :: r => uptoBulkEntry x + uptoBulkEntries r
def uptoBulkEntry {H : Type} : Lit × DataW H → Nat
  | (.string bytes, d) => bytes.length + uptoBulk d + 1
  | (_, d) => uptoBulk d + 1
 end
def uptoSmall : (H : Type) → List (DataW H) → Bool := fun _ ds => decide (uptoBulkAll ds ≤ 1048576)
def OpenSpec.upto (s : _root_.Go.ChangeSpec) : _root_.Go.OpenSpec := { _root_.Go.OpenSpec.ofChange s with cond := some uptoSmall }

/-- 'laws.FnExactTextItem', WHERE WHAT IT READS IS OF BULK AT MOST 1048576: true; the input reads as it did. -/
def fnExactTextItemUptoRow : OpenClaim := { program := "ytmbfjhhlpnjeoaa", sum := "227d6d7f327977c1231c8e418f85131b90e2164ea78ea7a627c824263e5d579e", func := "loop.example/g00724/laws.FnExactTextItem", spec := "fnExactTextItem", inPlace := ["internal/bytealg.IndexByteString", "internal/bytealg.IndexString"], recurses := true, named := ["internal/bytealg.MaxLen"], apart := false, narrowed := true }
def FnExactTextItemUptoSaid : Prop := fnExactTextItemUptoRow.holds Try.pinned (OpenSpec.upto fnExactTextItemSpec)

/-- 'laws.FnExactTextCmd', WHERE WHAT IT READS IS OF BULK AT MOST 1048576: true; the input reads as it did. -/
def fnExactTextCmdUptoRow : OpenClaim := { program := "ytmbfjhhlpnjeoaa", sum := "227d6d7f327977c1231c8e418f85131b90e2164ea78ea7a627c824263e5d579e", func := "loop.example/g00724/laws.FnExactTextCmd", spec := "fnExactTextCmd", recurses := true, apart := false, narrowed := true }
def FnExactTextCmdUptoSaid : Prop := fnExactTextCmdUptoRow.holds Try.pinned (OpenSpec.upto fnExactTextCmdSpec)

/-- 'laws.FnExactThreeText', WHERE WHAT IT READS IS OF BULK AT MOST 1048576: true; the input reads as it did. -/
def fnExactThreeTextUptoRow : OpenClaim := { program := "ytmbfjhhlpnjeoaa", sum := "227d6d7f327977c1231c8e418f85131b90e2164ea78ea7a627c824263e5d579e", func := "loop.example/g00724/laws.FnExactThreeText", spec := "fnExactThreeText", inPlace := ["internal/bytealg.IndexByteString", "internal/bytealg.IndexString"], unfollowed := true, recurses := true, named := ["internal/bytealg.MaxLen"], apart := false, narrowed := true }
def FnExactThreeTextUptoSaid : Prop := fnExactThreeTextUptoRow.holds Try.pinned (OpenSpec.upto fnExactThreeTextSpec)

/-- 'laws.FnExactDigest', WHERE WHAT IT READS IS OF BULK AT MOST 1048576: true; the input reads as it did. -/
def fnExactDigestUptoRow : OpenClaim := { program := "ytmbfjhhlpnjeoaa", sum := "227d6d7f327977c1231c8e418f85131b90e2164ea78ea7a627c824263e5d579e", func := "loop.example/g00724/laws.FnExactDigest", spec := "fnExactDigest", inPlace := ["internal/bytealg.IndexByteString", "internal/bytealg.IndexString"], unfollowed := true, recurses := true, named := ["internal/bytealg.MaxLen"], apart := false, narrowed := true }
def FnExactDigestUptoSaid : Prop := fnExactDigestUptoRow.holds Try.pinned (OpenSpec.upto fnExactDigestSpec)

/-- 'laws.FnExactReadCmds', WHERE WHAT IT READS IS OF BULK AT MOST 1048576: true; the input reads as it did. -/
def fnExactReadCmdsUptoRow : OpenClaim := { program := "ytmbfjhhlpnjeoaa", sum := "227d6d7f327977c1231c8e418f85131b90e2164ea78ea7a627c824263e5d579e", func := "loop.example/g00724/laws.FnExactReadCmds", spec := "fnExactReadCmds", recurses := true, apart := false, narrowed := true }
def FnExactReadCmdsUptoSaid : Prop := fnExactReadCmdsUptoRow.holds Try.pinned (OpenSpec.upto fnExactReadCmdsSpec)

/-- 'laws.FnExactPlaceOf', WHERE WHAT IT READS IS OF BULK AT MOST 1048576: true; the input reads as it did. -/
def fnExactPlaceOfUptoRow : OpenClaim := { program := "ytmbfjhhlpnjeoaa", sum := "227d6d7f327977c1231c8e418f85131b90e2164ea78ea7a627c824263e5d579e", func := "loop.example/g00724/laws.FnExactPlaceOf", spec := "fnExactPlaceOf", apart := false, narrowed := true }
def FnExactPlaceOfUptoSaid : Prop := fnExactPlaceOfUptoRow.holds Try.pinned (OpenSpec.upto fnExactPlaceOfSpec)

/-- 'laws.FnExactTextThree', WHERE WHAT IT READS IS OF BULK AT MOST 1048576: true; the input reads as it did. -/
def fnExactTextThreeUptoRow : OpenClaim := { program := "ytmbfjhhlpnjeoaa", sum := "227d6d7f327977c1231c8e418f85131b90e2164ea78ea7a627c824263e5d579e", func := "loop.example/g00724/laws.FnExactTextThree", spec := "fnExactTextThree", inPlace := ["internal/bytealg.IndexByteString", "internal/bytealg.IndexString"], unfollowed := true, recurses := true, named := ["internal/bytealg.MaxLen"], apart := false, narrowed := true }
def FnExactTextThreeUptoSaid : Prop := fnExactTextThreeUptoRow.holds Try.pinned (OpenSpec.upto fnExactTextThreeSpec)

/-- 'laws.FnExactBusy', WHERE WHAT IT READS IS OF BULK AT MOST 1048576: true; the input reads as it did. -/
def fnExactBusyUptoRow : OpenClaim := { program := "ytmbfjhhlpnjeoaa", sum := "227d6d7f327977c1231c8e418f85131b90e2164ea78ea7a627c824263e5d579e", func := "loop.example/g00724/laws.FnExactBusy", spec := "fnExactBusy", apart := false, narrowed := true }
def FnExactBusyUptoSaid : Prop := fnExactBusyUptoRow.holds Try.pinned (OpenSpec.upto fnExactBusySpec)

/-- 'laws.FnExactRepliesOf', WHERE WHAT IT READS IS OF BULK AT MOST 1048576: true; the input reads as it did. -/
def fnExactRepliesOfUptoRow : OpenClaim := { program := "ytmbfjhhlpnjeoaa", sum := "227d6d7f327977c1231c8e418f85131b90e2164ea78ea7a627c824263e5d579e", func := "loop.example/g00724/laws.FnExactRepliesOf", spec := "fnExactRepliesOf", apart := false, narrowed := true }
def FnExactRepliesOfUptoSaid : Prop := fnExactRepliesOfUptoRow.holds Try.pinned (OpenSpec.upto fnExactRepliesOfSpec)

/-- 'laws.FnExactMend', WHERE WHAT IT READS IS OF BULK AT MOST 1048576: true; the input reads as it did. -/
def fnExactMendUptoRow : OpenClaim := { program := "ytmbfjhhlpnjeoaa", sum := "227d6d7f327977c1231c8e418f85131b90e2164ea78ea7a627c824263e5d579e", func := "loop.example/g00724/laws.FnExactMend", spec := "fnExactMend", inPlace := ["internal/bytealg.IndexByteString", "internal/bytealg.IndexString"], unfollowed := true, recurses := true, named := ["internal/bytealg.MaxLen"], apart := false, narrowed := true }
def FnExactMendUptoSaid : Prop := fnExactMendUptoRow.holds Try.pinned (OpenSpec.upto fnExactMendSpec)

end Rows
end Go.Proofs.Ytmbfjhhlpnjeoaa
