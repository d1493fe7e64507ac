/-
  No cell of these rows narrows 'for every input' (looked for: loops, veiled, ifaces, maps, wideKeys, modest, calm, conditions, laid).
  DERIVED. THE GIVEN ROWS OF THIS SEAT. 8 by the template 'for every input the law returns true; each argument reads behind the call as it read before'; 0 by the template 'total and deterministic' (their statements: YtcdflbbohnjegaaTotals.lean).
  GIVEN WITH THE SEED: the statements are not yours to turn. If you find one false, say at which input.
  Laid BY PROGRAM, IN A SANDBOX (cutbox-rows.mjs): the forced cells as the released guide's own fill.sh prints them over the translation 02f9e56ecef299cf… (all of the seat's roots in one cut). By AI agents, Wed Nov 11 2026. No macro, syntax, notation, axiom, sorry.
-/
import Derived.Test.YtcdflbbohnjegaaChecked
import GoSem.Claim
import GoSem.ClaimJoined
import GoSem.ClaimMapViews
import Derived.JoinedTies
import Derived.KernelRfl
namespace Go.Proofs.Ytcdflbbohnjegaa
/- THE CELL 'sum', in the pinned program and in every row, IS THE sha256 OF THE DUMP (.gsa) THAT YtcdflbbohnjegaaProg.lean LOADS. Nothing in Lean hashes anything: it is a label: what it is worth is what the hold of that sum in a sandbox is worth. -/
noncomputable def Try.pinned : Pinned := { name := "ytcdflbbohnjegaa", sum := "02f9e56ecef299cf9ce989a4b09feef0344423ffd7b6b8bb6f358efad3c4ad89", checked := Try.checked }
namespace Rows
def none {H : Type} : Left H := { results := [], args := [] }

/-- 'laws.FnExactTableOk': WHATEVER THE INPUT: true; the input reads as it did. -/
def fnExactTableOkSpec : ChangeSpec := { name := "fnExactTableOk", fn := fun _ => fun
  | [d] => { results := [.lit (.bool true)], args := [d] }
  | _ => none }
def fnExactTableOkRow : OpenClaim := { program := "ytcdflbbohnjegaa", sum := "02f9e56ecef299cf9ce989a4b09feef0344423ffd7b6b8bb6f358efad3c4ad89", func := "loop.example/g00724/laws.FnExactTableOk", spec := "fnExactTableOk", unfollowed := true, recurses := true, apart := false }
def FnExactTableOkSaid : Prop := fnExactTableOkRow.holds Try.pinned (OpenSpec.ofChange fnExactTableOkSpec)

/-- ITS FALSE NEIGHBOUR: 'it returns false'. Refute it at one input. -/
def fnExactTableOkWrong : ChangeSpec := { name := "fnExactTableOk", fn := fun _ => fun
  | [d] => { results := [.lit (.bool false)], args := [d] }
  | _ => none }
def FnExactTableOkWrongFalsely : Prop := fnExactTableOkRow.holds Try.pinned (OpenSpec.ofChange fnExactTableOkWrong)

/-- 'laws.FnExactHas': WHATEVER THE INPUT: true; the input reads as it did. -/
def fnExactHasSpec : ChangeSpec := { name := "fnExactHas", fn := fun _ => fun
  | [d1, d2] => { results := [.lit (.bool true)], args := [d1, d2] }
  | _ => none }
def fnExactHasRow : OpenClaim := { program := "ytcdflbbohnjegaa", sum := "02f9e56ecef299cf9ce989a4b09feef0344423ffd7b6b8bb6f358efad3c4ad89", func := "loop.example/g00724/laws.FnExactHas", spec := "fnExactHas", unfollowed := true, recurses := true, apart := false }
def FnExactHasSaid : Prop := fnExactHasRow.holds Try.pinned (OpenSpec.ofChange fnExactHasSpec)

/-- ITS FALSE NEIGHBOUR: 'it returns false'. Refute it at one input. -/
def fnExactHasWrong : ChangeSpec := { name := "fnExactHas", fn := fun _ => fun
  | [d1, d2] => { results := [.lit (.bool false)], args := [d1, d2] }
  | _ => none }
def FnExactHasWrongFalsely : Prop := fnExactHasRow.holds Try.pinned (OpenSpec.ofChange fnExactHasWrong)

/-- 'laws.FnExactGrow': WHATEVER THE INPUT: true; the input reads as it did. -/
def fnExactGrowSpec : ChangeSpec := { name := "fnExactGrow", fn := fun _ => fun
  | [d] => { results := [.lit (.bool true)], args := [d] }
  | _ => none }
def fnExactGrowRow : OpenClaim := { program := "ytcdflbbohnjegaa", sum := "02f9e56ecef299cf9ce989a4b09feef0344423ffd7b6b8bb6f358efad3c4ad89", func := "loop.example/g00724/laws.FnExactGrow", spec := "fnExactGrow", unfollowed := true, recurses := true, apart := false }
def FnExactGrowSaid : Prop := fnExactGrowRow.holds Try.pinned (OpenSpec.ofChange fnExactGrowSpec)

/-- ITS FALSE NEIGHBOUR: 'it returns false'. Refute it at one input. -/
def fnExactGrowWrong : ChangeSpec := { name := "fnExactGrow", fn := fun _ => fun
  | [d] => { results := [.lit (.bool false)], args := [d] }
  | _ => none }
def FnExactGrowWrongFalsely : Prop := fnExactGrowRow.holds Try.pinned (OpenSpec.ofChange fnExactGrowWrong)

/-- 'laws.FnExactKeys': WHATEVER THE INPUT: true; the input reads as it did. -/
def fnExactKeysSpec : ChangeSpec := { name := "fnExactKeys", fn := fun _ => fun
  | [d] => { results := [.lit (.bool true)], args := [d] }
  | _ => none }
def fnExactKeysRow : OpenClaim := { program := "ytcdflbbohnjegaa", sum := "02f9e56ecef299cf9ce989a4b09feef0344423ffd7b6b8bb6f358efad3c4ad89", func := "loop.example/g00724/laws.FnExactKeys", spec := "fnExactKeys", unfollowed := true, recurses := true, apart := false }
def FnExactKeysSaid : Prop := fnExactKeysRow.holds Try.pinned (OpenSpec.ofChange fnExactKeysSpec)

/-- ITS FALSE NEIGHBOUR: 'it returns false'. Refute it at one input. -/
def fnExactKeysWrong : ChangeSpec := { name := "fnExactKeys", fn := fun _ => fun
  | [d] => { results := [.lit (.bool false)], args := [d] }
  | _ => none }
def FnExactKeysWrongFalsely : Prop := fnExactKeysRow.holds Try.pinned (OpenSpec.ofChange fnExactKeysWrong)

/-- 'laws.FnExactChain': WHATEVER THE INPUT: true; the input reads as it did. -/
def fnExactChainSpec : ChangeSpec := { name := "fnExactChain", fn := fun _ => fun
  | [d1, d2] => { results := [.lit (.bool true)], args := [d1, d2] }
  | _ => none }
def fnExactChainRow : OpenClaim := { program := "ytcdflbbohnjegaa", sum := "02f9e56ecef299cf9ce989a4b09feef0344423ffd7b6b8bb6f358efad3c4ad89", func := "loop.example/g00724/laws.FnExactChain", spec := "fnExactChain", unfollowed := true, recurses := true, apart := false }
def FnExactChainSaid : Prop := fnExactChainRow.holds Try.pinned (OpenSpec.ofChange fnExactChainSpec)

/-- ITS FALSE NEIGHBOUR: 'it returns false'. Refute it at one input. -/
def fnExactChainWrong : ChangeSpec := { name := "fnExactChain", fn := fun _ => fun
  | [d1, d2] => { results := [.lit (.bool false)], args := [d1, d2] }
  | _ => none }
def FnExactChainWrongFalsely : Prop := fnExactChainRow.holds Try.pinned (OpenSpec.ofChange fnExactChainWrong)

/-- 'laws.FnExactDel': WHATEVER THE INPUT: true; the input reads as it did. -/
def fnExactDelSpec : ChangeSpec := { name := "fnExactDel", fn := fun _ => fun
  | [d1, d2] => { results := [.lit (.bool true)], args := [d1, d2] }
  | _ => none }
def fnExactDelRow : OpenClaim := { program := "ytcdflbbohnjegaa", sum := "02f9e56ecef299cf9ce989a4b09feef0344423ffd7b6b8bb6f358efad3c4ad89", func := "loop.example/g00724/laws.FnExactDel", spec := "fnExactDel", unfollowed := true, recurses := true, apart := false }
def FnExactDelSaid : Prop := fnExactDelRow.holds Try.pinned (OpenSpec.ofChange fnExactDelSpec)

/-- ITS FALSE NEIGHBOUR: 'it returns false'. Refute it at one input. -/
def fnExactDelWrong : ChangeSpec := { name := "fnExactDel", fn := fun _ => fun
  | [d1, d2] => { results := [.lit (.bool false)], args := [d1, d2] }
  | _ => none }
def FnExactDelWrongFalsely : Prop := fnExactDelRow.holds Try.pinned (OpenSpec.ofChange fnExactDelWrong)

/-- 'laws.FnExactOpen': WHATEVER THE INPUT: true; the input reads as it did. -/
def fnExactOpenSpec : ChangeSpec := { name := "fnExactOpen", fn := fun _ => fun
  | [d1, d2] => { results := [.lit (.bool true)], args := [d1, d2] }
  | _ => none }
def fnExactOpenRow : OpenClaim := { program := "ytcdflbbohnjegaa", sum := "02f9e56ecef299cf9ce989a4b09feef0344423ffd7b6b8bb6f358efad3c4ad89", func := "loop.example/g00724/laws.FnExactOpen", spec := "fnExactOpen", inPlace := ["slices.overlaps[loop.example/g00724/impl.Entry]"], unfollowed := true, recurses := true, apart := false }
def FnExactOpenSaid : Prop := fnExactOpenRow.holds Try.pinned (OpenSpec.ofChange fnExactOpenSpec)

/-- ITS FALSE NEIGHBOUR: 'it returns false'. Refute it at one input. -/
def fnExactOpenWrong : ChangeSpec := { name := "fnExactOpen", fn := fun _ => fun
  | [d1, d2] => { results := [.lit (.bool false)], args := [d1, d2] }
  | _ => none }
def FnExactOpenWrongFalsely : Prop := fnExactOpenRow.holds Try.pinned (OpenSpec.ofChange fnExactOpenWrong)

/-- 'laws.FnExactAdd': WHATEVER THE INPUT: true; the input reads as it did. -/
def fnExactAddSpec : ChangeSpec := { name := "fnExactAdd", fn := fun _ => fun
  | [d1, d2] => { results := [.lit (.bool true)], args := [d1, d2] }
  | _ => none }
def fnExactAddRow : OpenClaim := { program := "ytcdflbbohnjegaa", sum := "02f9e56ecef299cf9ce989a4b09feef0344423ffd7b6b8bb6f358efad3c4ad89", func := "loop.example/g00724/laws.FnExactAdd", spec := "fnExactAdd", inPlace := ["slices.overlaps[loop.example/g00724/impl.Entry]"], unfollowed := true, recurses := true, apart := false }
def FnExactAddSaid : Prop := fnExactAddRow.holds Try.pinned (OpenSpec.ofChange fnExactAddSpec)

/-- ITS FALSE NEIGHBOUR: 'it returns false'. Refute it at one input. -/
def fnExactAddWrong : ChangeSpec := { name := "fnExactAdd", fn := fun _ => fun
  | [d1, d2] => { results := [.lit (.bool false)], args := [d1, d2] }
  | _ => none }
def FnExactAddWrongFalsely : Prop := fnExactAddRow.holds Try.pinned (OpenSpec.ofChange fnExactAddWrong)

/- THE SECOND FORM. 'bulk': how many values and letters a reading holds, each counted each time it is reached (what is shared counts as often as it is met; a slice's spare places count too). A statement '..UptoSaid' is the law's where the arguments, and the package variables that the reading takes, are together of bulk at most 1048576: NARROWER than '..Said'. Prove '..Said' where nothing that the law and all that it calls make is longer than what came in: it says more and counts as full. Else prove '..UptoSaid'. A law counts once. -/
mutual
def uptoBulk {H : Type} : DataW H → Nat
  | .lit (.string bytes) => bytes.length + 1
  | .lit _ => 1
  | .nil => 1
  | .ptr d => uptoBulk d + 1
  | .slice elems spare => uptoBulkAll elems + uptoBulkAll spare + 1
  | .agg parts => uptoBulkAll parts + 1
  | .iface _ d => uptoBulk d + 1
  | .map entries => uptoBulkEntries entries + 1
  | .held _ => 1
def uptoBulkAll {H : Type} : List (DataW H) → Nat
  | [] => 0
  | d :: r => uptoBulk d + uptoBulkAll r
def uptoBulkEntries {H : Type} : List (Lit × DataW H) → Nat
  | [] => 0
  | x :: r => uptoBulkEntry x + uptoBulkEntries r
def uptoBulkEntry {H : Type} : Lit × DataW H → Nat
  | (.string bytes, d) => bytes.length + uptoBulk d + 1
  | (_, d) => uptoBulk d + 1
 end
def uptoSmall : (H : Type) → List (DataW H) → Bool := fun _ ds => decide (uptoBulkAll ds ≤ 1048576)
def OpenSpec.upto (s : _root_.Go.ChangeSpec) : _root_.Go.OpenSpec := { _root_.Go.OpenSpec.ofChange s with cond := some uptoSmall }

/-- 'laws.FnExactTableOk', WHERE WHAT IT READS IS OF BULK AT MOST 1048576: true; the input reads as it did. -/
def fnExactTableOkUptoRow : OpenClaim := { program := "ytcdflbbohnjegaa", sum := "02f9e56ecef299cf9ce989a4b09feef0344423ffd7b6b8bb6f358efad3c4ad89", func := "loop.example/g00724/laws.FnExactTableOk", spec := "fnExactTableOk", unfollowed := true, recurses := true, apart := false, narrowed := true }
def FnExactTableOkUptoSaid : Prop := fnExactTableOkUptoRow.holds Try.pinned (OpenSpec.upto fnExactTableOkSpec)

/-- 'laws.FnExactHas', WHERE WHAT IT READS IS OF BULK AT MOST 1048576: true; the input reads as it did. -/
def fnExactHasUptoRow : OpenClaim := { program := "ytcdflbbohnjegaa", sum := "02f9e56ecef299cf9ce989a4b09feef0344423ffd7b6b8bb6f358efad3c4ad89", func := "loop.example/g00724/laws.FnExactHas", spec := "fnExactHas", unfollowed := true, recurses := true, apart := false, narrowed := true }
def FnExactHasUptoSaid : Prop := fnExactHasUptoRow.holds Try.pinned (OpenSpec.upto fnExactHasSpec)

/-- 'laws.FnExactGrow', WHERE WHAT IT READS IS OF BULK AT MOST 1048576: true; the input reads as it did. -/
def fnExactGrowUptoRow : OpenClaim := { program := "ytcdflbbohnjegaa", sum := "02f9e56ecef299cf9ce989a4b09feef0344423ffd7b6b8bb6f358efad3c4ad89", func := "loop.example/g00724/laws.FnExactGrow", spec := "fnExactGrow", unfollowed := true, recurses := true, apart := false, narrowed := true }
def FnExactGrowUptoSaid : Prop := fnExactGrowUptoRow.holds Try.pinned (OpenSpec.upto fnExactGrowSpec)

/-- 'laws.FnExactKeys', WHERE WHAT IT READS IS OF BULK AT MOST 1048576: true; the input reads as it did. -/
def fnExactKeysUptoRow : OpenClaim := { program := "ytcdflbbohnjegaa", sum := "02f9e56ecef299cf9ce989a4b09feef0344423ffd7b6b8bb6f358efad3c4ad89", func := "loop.example/g00724/laws.FnExactKeys", spec := "fnExactKeys", unfollowed := true, recurses := true, apart := false, narrowed := true }
def FnExactKeysUptoSaid : Prop := fnExactKeysUptoRow.holds Try.pinned (OpenSpec.upto fnExactKeysSpec)

/-- 'laws.FnExactChain', WHERE WHAT IT READS IS OF BULK AT MOST 1048576: true; the input reads as it did. -/
def fnExactChainUptoRow : OpenClaim := { program := "ytcdflbbohnjegaa", sum := "02f9e56ecef299cf9ce989a4b09feef0344423ffd7b6b8bb6f358efad3c4ad89", func := "loop.example/g00724/laws.FnExactChain", spec := "fnExactChain", unfollowed := true, recurses := true, apart := false, narrowed := true }
def FnExactChainUptoSaid : Prop := fnExactChainUptoRow.holds Try.pinned (OpenSpec.upto fnExactChainSpec)

/-- 'laws.FnExactDel', WHERE WHAT IT READS IS OF BULK AT MOST 1048576: true; the input reads as it did. -/
def fnExactDelUptoRow : OpenClaim := { program := "ytcdflbbohnjegaa", sum := "02f9e56ecef299cf9ce989a4b09feef0344423ffd7b6b8bb6f358efad3c4ad89", func := "loop.example/g00724/laws.FnExactDel", spec := "fnExactDel", unfollowed := true, recurses := true, apart := false, narrowed := true }
def FnExactDelUptoSaid : Prop := fnExactDelUptoRow.holds Try.pinned (OpenSpec.upto fnExactDelSpec)

/-- 'laws.FnExactOpen', WHERE WHAT IT READS IS OF BULK AT MOST 1048576: true; the input reads as it did. -/
def fnExactOpenUptoRow : OpenClaim := { program := "ytcdflbbohnjegaa", sum := "02f9e56ecef299cf9ce989a4b09feef0344423ffd7b6b8bb6f358efad3c4ad89", func := "loop.example/g00724/laws.FnExactOpen", spec := "fnExactOpen", inPlace := ["slices.overlaps[loop.example/g00724/impl.Entry]"], unfollowed := true, recurses := true, apart := false, narrowed := true }
def FnExactOpenUptoSaid : Prop := fnExactOpenUptoRow.holds Try.pinned (OpenSpec.upto fnExactOpenSpec)

/-- 'laws.FnExactAdd', WHERE WHAT IT READS IS OF BULK AT MOST 1048576: true; the input reads as it did. -/
def fnExactAddUptoRow : OpenClaim := { program := "ytcdflbbohnjegaa", sum := "02f9e56ecef299cf9ce989a4b09feef0344423ffd7b6b8bb6f358efad3c4ad89", func := "loop.example/g00724/laws.FnExactAdd", spec := "fnExactAdd", inPlace := ["slices.overlaps[loop.example/g00724/impl.Entry]"], unfollowed := true, recurses := true, apart := false, narrowed := true }
def FnExactAddUptoSaid : Prop := fnExactAddUptoRow.holds Try.pinned (OpenSpec.upto fnExactAddSpec)

end Rows
end Go.Proofs.Ytcdflbbohnjegaa
