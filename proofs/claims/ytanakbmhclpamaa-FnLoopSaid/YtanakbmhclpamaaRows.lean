/-
  No cell of these rows narrows 'for every input' (looked for: loops, veiled, ifaces, maps, wideKeys, modest, calm, conditions, laid).
  DERIVED. THE GIVEN ROWS OF THIS SEAT. 8 by the template 'for every input the law returns true; each argument reads behind the call as it read before'; 0 by the template 'total and deterministic' (their statements: YtanakbmhclpamaaTotals.lean).
  GIVEN WITH THE SEED: the statements are not yours to turn. If you find one false, say at which input.
  Laid BY PROGRAM, IN A SANDBOX (cutbox-rows.mjs): the forced cells as the released guide's own fill.sh prints them over the translation d7b9f8db6570117c… (all of the seat's roots in one cut). By AI agents, Wed Nov 11 2026. No macro, syntax, notation, axiom, sorry.
-/
import Derived.Test.YtanakbmhclpamaaChecked
import GoSem.Claim
import GoSem.ClaimJoined
import GoSem.ClaimMapViews
import Derived.JoinedTies
import Derived.KernelRfl
namespace Go.Proofs.Ytanakbmhclpamaa
/- THE CELL 'sum', in the pinned program and in every row, IS THE sha256 OF THE DUMP (.gsa) THAT YtanakbmhclpamaaProg.lean LOADS. Nothing in Lean hashes anything: it is a label: what it is worth is what the hold of that sum in a sandbox is worth. -/
noncomputable def Try.pinned : Pinned := { name := "ytanakbmhclpamaa", sum := "d7b9f8db6570117cde2902d31bcd69e9756238ca9586e9914b20e2177c7b1c95", checked := Try.checked }
namespace Rows
def none {H : Type} : Left H := { results := [], args := [] }

/-- 'laws.FnExactHitsOf': WHATEVER THE INPUT: true; the input reads as it did. -/
def fnExactHitsOfSpec : ChangeSpec := { name := "fnExactHitsOf", fn := fun _ => fun
  | [d1, d2] => { results := [.lit (.bool true)], args := [d1, d2] }
  | _ => none }
def fnExactHitsOfRow : OpenClaim := { program := "ytanakbmhclpamaa", sum := "d7b9f8db6570117cde2902d31bcd69e9756238ca9586e9914b20e2177c7b1c95", func := "loop.example/g00724/laws.FnExactHitsOf", spec := "fnExactHitsOf", unfollowed := true, recurses := true, apart := false }
def FnExactHitsOfSaid : Prop := fnExactHitsOfRow.holds Try.pinned (OpenSpec.ofChange fnExactHitsOfSpec)

/-- ITS FALSE NEIGHBOUR: 'it returns false'. Refute it at one input. -/
def fnExactHitsOfWrong : ChangeSpec := { name := "fnExactHitsOf", fn := fun _ => fun
  | [d1, d2] => { results := [.lit (.bool false)], args := [d1, d2] }
  | _ => none }
def FnExactHitsOfWrongFalsely : Prop := fnExactHitsOfRow.holds Try.pinned (OpenSpec.ofChange fnExactHitsOfWrong)

/-- 'laws.FnExactCountOf': WHATEVER THE INPUT: true; the input reads as it did. -/
def fnExactCountOfSpec : ChangeSpec := { name := "fnExactCountOf", fn := fun _ => fun
  | [d1, d2] => { results := [.lit (.bool true)], args := [d1, d2] }
  | _ => none }
def fnExactCountOfRow : OpenClaim := { program := "ytanakbmhclpamaa", sum := "d7b9f8db6570117cde2902d31bcd69e9756238ca9586e9914b20e2177c7b1c95", func := "loop.example/g00724/laws.FnExactCountOf", spec := "fnExactCountOf", unfollowed := true, recurses := true, apart := false }
def FnExactCountOfSaid : Prop := fnExactCountOfRow.holds Try.pinned (OpenSpec.ofChange fnExactCountOfSpec)

/-- ITS FALSE NEIGHBOUR: 'it returns false'. Refute it at one input. -/
def fnExactCountOfWrong : ChangeSpec := { name := "fnExactCountOf", fn := fun _ => fun
  | [d1, d2] => { results := [.lit (.bool false)], args := [d1, d2] }
  | _ => none }
def FnExactCountOfWrongFalsely : Prop := fnExactCountOfRow.holds Try.pinned (OpenSpec.ofChange fnExactCountOfWrong)

/-- 'laws.FnExactHolds': WHATEVER THE INPUT: true; the input reads as it did. -/
def fnExactHoldsSpec : ChangeSpec := { name := "fnExactHolds", fn := fun _ => fun
  | [d1, d2] => { results := [.lit (.bool true)], args := [d1, d2] }
  | _ => none }
def fnExactHoldsRow : OpenClaim := { program := "ytanakbmhclpamaa", sum := "d7b9f8db6570117cde2902d31bcd69e9756238ca9586e9914b20e2177c7b1c95", func := "loop.example/g00724/laws.FnExactHolds", spec := "fnExactHolds", unfollowed := true, recurses := true, apart := false }
def FnExactHoldsSaid : Prop := fnExactHoldsRow.holds Try.pinned (OpenSpec.ofChange fnExactHoldsSpec)

/-- ITS FALSE NEIGHBOUR: 'it returns false'. Refute it at one input. -/
def fnExactHoldsWrong : ChangeSpec := { name := "fnExactHolds", fn := fun _ => fun
  | [d1, d2] => { results := [.lit (.bool false)], args := [d1, d2] }
  | _ => none }
def FnExactHoldsWrongFalsely : Prop := fnExactHoldsRow.holds Try.pinned (OpenSpec.ofChange fnExactHoldsWrong)

/-- 'laws.FnClock': WHATEVER THE INPUT: true; the input reads as it did. -/
def fnClockSpec : ChangeSpec := { name := "fnClock", fn := fun _ => fun
  | [d] => { results := [.lit (.bool true)], args := [d] }
  | _ => none }
def fnClockRow : OpenClaim := { program := "ytanakbmhclpamaa", sum := "d7b9f8db6570117cde2902d31bcd69e9756238ca9586e9914b20e2177c7b1c95", func := "loop.example/g00724/laws.FnClock", spec := "fnClock", unfollowed := true, recurses := true, apart := false }
def FnClockSaid : Prop := fnClockRow.holds Try.pinned (OpenSpec.ofChange fnClockSpec)

/-- ITS FALSE NEIGHBOUR: 'it returns false'. Refute it at one input. -/
def fnClockWrong : ChangeSpec := { name := "fnClock", fn := fun _ => fun
  | [d] => { results := [.lit (.bool false)], args := [d] }
  | _ => none }
def FnClockWrongFalsely : Prop := fnClockRow.holds Try.pinned (OpenSpec.ofChange fnClockWrong)

/-- 'laws.FnLoop': WHATEVER THE INPUT: true; the input reads as it did. -/
def fnLoopSpec : ChangeSpec := { name := "fnLoop", fn := fun _ => fun
  | [d] => { results := [.lit (.bool true)], args := [d] }
  | _ => none }
def fnLoopRow : OpenClaim := { program := "ytanakbmhclpamaa", sum := "d7b9f8db6570117cde2902d31bcd69e9756238ca9586e9914b20e2177c7b1c95", func := "loop.example/g00724/laws.FnLoop", spec := "fnLoop", unfollowed := true, recurses := true, apart := false }
def FnLoopSaid : Prop := fnLoopRow.holds Try.pinned (OpenSpec.ofChange fnLoopSpec)

/-- ITS FALSE NEIGHBOUR: 'it returns false'. Refute it at one input. -/
def fnLoopWrong : ChangeSpec := { name := "fnLoop", fn := fun _ => fun
  | [d] => { results := [.lit (.bool false)], args := [d] }
  | _ => none }
def FnLoopWrongFalsely : Prop := fnLoopRow.holds Try.pinned (OpenSpec.ofChange fnLoopWrong)

/-- 'laws.FnCount': WHATEVER THE INPUT: true; the input reads as it did. -/
def fnCountSpec : ChangeSpec := { name := "fnCount", fn := fun _ => fun
  | [d] => { results := [.lit (.bool true)], args := [d] }
  | _ => none }
def fnCountRow : OpenClaim := { program := "ytanakbmhclpamaa", sum := "d7b9f8db6570117cde2902d31bcd69e9756238ca9586e9914b20e2177c7b1c95", func := "loop.example/g00724/laws.FnCount", spec := "fnCount", unfollowed := true, recurses := true, apart := false }
def FnCountSaid : Prop := fnCountRow.holds Try.pinned (OpenSpec.ofChange fnCountSpec)

/-- ITS FALSE NEIGHBOUR: 'it returns false'. Refute it at one input. -/
def fnCountWrong : ChangeSpec := { name := "fnCount", fn := fun _ => fun
  | [d] => { results := [.lit (.bool false)], args := [d] }
  | _ => none }
def FnCountWrongFalsely : Prop := fnCountRow.holds Try.pinned (OpenSpec.ofChange fnCountWrong)

/-- 'laws.FnNone': WHATEVER THE INPUT: true; the input reads as it did. -/
def fnNoneSpec : ChangeSpec := { name := "fnNone", fn := fun _ => fun
  | [d] => { results := [.lit (.bool true)], args := [d] }
  | _ => none }
def fnNoneRow : OpenClaim := { program := "ytanakbmhclpamaa", sum := "d7b9f8db6570117cde2902d31bcd69e9756238ca9586e9914b20e2177c7b1c95", func := "loop.example/g00724/laws.FnNone", spec := "fnNone", unfollowed := true, recurses := true, apart := false }
def FnNoneSaid : Prop := fnNoneRow.holds Try.pinned (OpenSpec.ofChange fnNoneSpec)

/-- ITS FALSE NEIGHBOUR: 'it returns false'. Refute it at one input. -/
def fnNoneWrong : ChangeSpec := { name := "fnNone", fn := fun _ => fun
  | [d] => { results := [.lit (.bool false)], args := [d] }
  | _ => none }
def FnNoneWrongFalsely : Prop := fnNoneRow.holds Try.pinned (OpenSpec.ofChange fnNoneWrong)

/-- 'laws.FnLru': WHATEVER THE INPUT: true; the input reads as it did. -/
def fnLruSpec : ChangeSpec := { name := "fnLru", fn := fun _ => fun
  | [d] => { results := [.lit (.bool true)], args := [d] }
  | _ => none }
def fnLruRow : OpenClaim := { program := "ytanakbmhclpamaa", sum := "d7b9f8db6570117cde2902d31bcd69e9756238ca9586e9914b20e2177c7b1c95", func := "loop.example/g00724/laws.FnLru", spec := "fnLru", unfollowed := true, recurses := true, apart := false }
def FnLruSaid : Prop := fnLruRow.holds Try.pinned (OpenSpec.ofChange fnLruSpec)

/-- ITS FALSE NEIGHBOUR: 'it returns false'. Refute it at one input. -/
def fnLruWrong : ChangeSpec := { name := "fnLru", fn := fun _ => fun
  | [d] => { results := [.lit (.bool false)], args := [d] }
  | _ => none }
def FnLruWrongFalsely : Prop := fnLruRow.holds Try.pinned (OpenSpec.ofChange fnLruWrong)

/- THE SECOND FORM. 'bulk': how many values and letters a reading holds, each counted each time it is reached (what is shared counts as often as it is met; a slice's spare places count too). A statement '..UptoSaid' is the law's where the arguments, and the package variables that the reading takes, are together of bulk at most 1048576: NARROWER than '..Said'. Prove '..Said' where nothing that the law and all that it calls make is longer than what came in: it says more and counts as full. Else prove '..UptoSaid'. A law counts once. -/
mutual
def uptoBulk {H : Type} : DataW H → Nat
  | .lit (.string bytes) => bytes.length + 1
  | .lit _ => 1
  | .nil => 1
  | .ptr d => uptoBulk d + 1
  | .slice elems spare => uptoBulkAll elems + uptoBulkAll spare + 1
  | .agg parts => uptoBulkAll parts + 1
  | .iface _ d => uptoBulk d + 1
  | .map entries => uptoBulkEntries entries + 1
  | .held _ => 1
def uptoBulkAll {H : Type} : List (DataW H) → Nat
  | [] => 0
  | d :: r => uptoBulk d + uptoBulkAll r
def uptoBulkEntries {H : Type} : List (Lit × DataW H) → Nat
  | [] => 0
  | x :: r => uptoBulkEntry x + uptoBulkEntries r
def uptoBulkEntry {H : Type} : Lit × DataW H → Nat
  | (.string bytes, d) => bytes.length + uptoBulk d + 1
  | (_, d) => uptoBulk d + 1
 end
def uptoSmall : (H : Type) → List (DataW H) → Bool := fun _ ds => decide (uptoBulkAll ds ≤ 1048576)
def OpenSpec.upto (s : _root_.Go.ChangeSpec) : _root_.Go.OpenSpec := { _root_.Go.OpenSpec.ofChange s with cond := some uptoSmall }

/-- 'laws.FnExactHitsOf', WHERE WHAT IT READS IS OF BULK AT MOST 1048576: true; the input reads as it did. -/
def fnExactHitsOfUptoRow : OpenClaim := { program := "ytanakbmhclpamaa", sum := "d7b9f8db6570117cde2902d31bcd69e9756238ca9586e9914b20e2177c7b1c95", func := "loop.example/g00724/laws.FnExactHitsOf", spec := "fnExactHitsOf", unfollowed := true, recurses := true, apart := false, narrowed := true }
def FnExactHitsOfUptoSaid : Prop := fnExactHitsOfUptoRow.holds Try.pinned (OpenSpec.upto fnExactHitsOfSpec)

/-- 'laws.FnExactCountOf', WHERE WHAT IT READS IS OF BULK AT MOST 1048576: true; the input reads as it did. -/
def fnExactCountOfUptoRow : OpenClaim := { program := "ytanakbmhclpamaa", sum := "d7b9f8db6570117cde2902d31bcd69e9756238ca9586e9914b20e2177c7b1c95", func := "loop.example/g00724/laws.FnExactCountOf", spec := "fnExactCountOf", unfollowed := true, recurses := true, apart := false, narrowed := true }
def FnExactCountOfUptoSaid : Prop := fnExactCountOfUptoRow.holds Try.pinned (OpenSpec.upto fnExactCountOfSpec)

/-- 'laws.FnExactHolds', WHERE WHAT IT READS IS OF BULK AT MOST 1048576: true; the input reads as it did. -/
def fnExactHoldsUptoRow : OpenClaim := { program := "ytanakbmhclpamaa", sum := "d7b9f8db6570117cde2902d31bcd69e9756238ca9586e9914b20e2177c7b1c95", func := "loop.example/g00724/laws.FnExactHolds", spec := "fnExactHolds", unfollowed := true, recurses := true, apart := false, narrowed := true }
def FnExactHoldsUptoSaid : Prop := fnExactHoldsUptoRow.holds Try.pinned (OpenSpec.upto fnExactHoldsSpec)

/-- 'laws.FnClock', WHERE WHAT IT READS IS OF BULK AT MOST 1048576: true; the input reads as it did. -/
def fnClockUptoRow : OpenClaim := { program := "ytanakbmhclpamaa", sum := "d7b9f8db6570117cde2902d31bcd69e9756238ca9586e9914b20e2177c7b1c95", func := "loop.example/g00724/laws.FnClock", spec := "fnClock", unfollowed := true, recurses := true, apart := false, narrowed := true }
def FnClockUptoSaid : Prop := fnClockUptoRow.holds Try.pinned (OpenSpec.upto fnClockSpec)

/-- 'laws.FnLoop', WHERE WHAT IT READS IS OF BULK AT MOST 1048576: true; the input reads as it did. -/
def fnLoopUptoRow : OpenClaim := { program := "ytanakbmhclpamaa", sum := "d7b9f8db6570117cde2902d31bcd69e9756238ca9586e9914b20e2177c7b1c95", func := "loop.example/g00724/laws.FnLoop", spec := "fnLoop", unfollowed := true, recurses := true, apart := false, narrowed := true }
def FnLoopUptoSaid : Prop := fnLoopUptoRow.holds Try.pinned (OpenSpec.upto fnLoopSpec)

/-- 'laws.FnCount', WHERE WHAT IT READS IS OF BULK AT MOST 1048576: true; the input reads as it did. -/
def fnCountUptoRow : OpenClaim := { program := "ytanakbmhclpamaa", sum := "d7b9f8db6570117cde2902d31bcd69e9756238ca9586e9914b20e2177c7b1c95", func := "loop.example/g00724/laws.FnCount", spec := "fnCount", unfollowed := true, recurses := true, apart := false, narrowed := true }
def FnCountUptoSaid : Prop := fnCountUptoRow.holds Try.pinned (OpenSpec.upto fnCountSpec)

/-- 'laws.FnNone', WHERE WHAT IT READS IS OF BULK AT MOST 1048576: true; the input reads as it did. -/
def fnNoneUptoRow : OpenClaim := { program := "ytanakbmhclpamaa", sum := "d7b9f8db6570117cde2902d31bcd69e9756238ca9586e9914b20e2177c7b1c95", func := "loop.example/g00724/laws.FnNone", spec := "fnNone", unfollowed := true, recurses := true, apart := false, narrowed := true }
def FnNoneUptoSaid : Prop := fnNoneUptoRow.holds Try.pinned (OpenSpec.upto fnNoneSpec)

/-- 'laws.FnLru', WHERE WHAT IT READS IS OF BULK AT MOST 1048576: true; the input reads as it did. -/
def fnLruUptoRow : OpenClaim := { program := "ytanakbmhclpamaa", sum := "d7b9f8db6570117cde2902d31bcd69e9756238ca9586e9914b20e2177c7b1c95", func := "loop.example/g00724/laws.FnLru", spec := "fnLru", unfollowed := true, recurses := true, apart := false, narrowed := true }
def FnLruUptoSaid : Prop := fnLruUptoRow.holds Try.pinned (OpenSpec.upto fnLruSpec)

end Rows
end Go.Proofs.Ytanakbmhclpamaa
