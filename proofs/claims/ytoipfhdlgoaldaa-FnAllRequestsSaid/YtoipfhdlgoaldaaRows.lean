/-
  No cell of these rows narrows 'for every input' (looked for: loops, veiled, ifaces, maps, wideKeys, modest, calm, conditions, laid).
  DERIVED. THE GIVEN ROWS OF THIS SEAT. 5 by the template 'for every input the law returns true; each argument reads behind the call as it read before'; 0 by the template 'total and deterministic' (their statements: YtoipfhdlgoaldaaTotals.lean).
  GIVEN WITH THE SEED: the statements are not yours to turn. If you find one false, say at which input.
  Laid BY PROGRAM, IN A SANDBOX (cutbox-rows.mjs): the forced cells as the released guide's own fill.sh prints them over the translation f346eb8f3b965764… (all of the seat's roots in one cut). By AI agents, Wed Nov 11 2026. No macro, syntax, notation, axiom, sorry.
-/
import Derived.Test.YtoipfhdlgoaldaaChecked
import GoSem.Claim
import GoSem.ClaimJoined
import GoSem.ClaimMapViews
import Derived.JoinedTies
import Derived.KernelRfl
namespace Go.Proofs.Ytoipfhdlgoaldaa
/- THE CELL 'sum', in the pinned program and in every row, IS THE sha256 OF THE DUMP (.gsa) THAT YtoipfhdlgoaldaaProg.lean LOADS. Nothing in Lean hashes anything: it is a label: what it is worth is what the hold of that sum in a sandbox is worth. -/
noncomputable def Try.pinned : Pinned := { name := "ytoipfhdlgoaldaa", sum := "f346eb8f3b96576488adda683d0d3397477083e9eba4a35e695d3a594c16c6cb", checked := Try.checked }
namespace Rows
def none {H : Type} : Left H := { results := [], args := [] }

/-- 'laws.FnIsIn': WHATEVER THE INPUT: true; the input reads as it did. -/
def fnIsInSpec : ChangeSpec := { name := "fnIsIn", fn := fun _ => fun
  | [d] => { results := [.lit (.bool true)], args := [d] }
  | _ => none }
def fnIsInRow : OpenClaim := { program := "ytoipfhdlgoaldaa", sum := "f346eb8f3b96576488adda683d0d3397477083e9eba4a35e695d3a594c16c6cb", func := "loop.example/accesspolicies/laws.FnIsIn", spec := "fnIsIn", unfollowed := true, recurses := true, apart := false }
def FnIsInSaid : Prop := fnIsInRow.holds Try.pinned (OpenSpec.ofChange fnIsInSpec)

/-- ITS FALSE NEIGHBOUR: 'it returns false'. Refute it at one input. -/
def fnIsInWrong : ChangeSpec := { name := "fnIsIn", fn := fun _ => fun
  | [d] => { results := [.lit (.bool false)], args := [d] }
  | _ => none }
def FnIsInWrongFalsely : Prop := fnIsInRow.holds Try.pinned (OpenSpec.ofChange fnIsInWrong)

/-- 'laws.FnGroupsOf': WHATEVER THE INPUT: true; the input reads as it did. -/
def fnGroupsOfSpec : ChangeSpec := { name := "fnGroupsOf", fn := fun _ => fun
  | [d] => { results := [.lit (.bool true)], args := [d] }
  | _ => none }
def fnGroupsOfRow : OpenClaim := { program := "ytoipfhdlgoaldaa", sum := "f346eb8f3b96576488adda683d0d3397477083e9eba4a35e695d3a594c16c6cb", func := "loop.example/accesspolicies/laws.FnGroupsOf", spec := "fnGroupsOf", unfollowed := true, recurses := true, apart := false }
def FnGroupsOfSaid : Prop := fnGroupsOfRow.holds Try.pinned (OpenSpec.ofChange fnGroupsOfSpec)

/-- ITS FALSE NEIGHBOUR: 'it returns false'. Refute it at one input. -/
def fnGroupsOfWrong : ChangeSpec := { name := "fnGroupsOf", fn := fun _ => fun
  | [d] => { results := [.lit (.bool false)], args := [d] }
  | _ => none }
def FnGroupsOfWrongFalsely : Prop := fnGroupsOfRow.holds Try.pinned (OpenSpec.ofChange fnGroupsOfWrong)

/-- 'laws.FnAllRequests': WHATEVER THE INPUT: true; the input reads as it did. -/
def fnAllRequestsSpec : ChangeSpec := { name := "fnAllRequests", fn := fun _ => fun
  | [d] => { results := [.lit (.bool true)], args := [d] }
  | _ => none }
def fnAllRequestsRow : OpenClaim := { program := "ytoipfhdlgoaldaa", sum := "f346eb8f3b96576488adda683d0d3397477083e9eba4a35e695d3a594c16c6cb", func := "loop.example/accesspolicies/laws.FnAllRequests", spec := "fnAllRequests", apart := false }
def FnAllRequestsSaid : Prop := fnAllRequestsRow.holds Try.pinned (OpenSpec.ofChange fnAllRequestsSpec)

/-- ITS FALSE NEIGHBOUR: 'it returns false'. Refute it at one input. -/
def fnAllRequestsWrong : ChangeSpec := { name := "fnAllRequests", fn := fun _ => fun
  | [d] => { results := [.lit (.bool false)], args := [d] }
  | _ => none }
def FnAllRequestsWrongFalsely : Prop := fnAllRequestsRow.holds Try.pinned (OpenSpec.ofChange fnAllRequestsWrong)

/-- 'laws.FnMembersOf': WHATEVER THE INPUT: true; the input reads as it did. -/
def fnMembersOfSpec : ChangeSpec := { name := "fnMembersOf", fn := fun _ => fun
  | [d] => { results := [.lit (.bool true)], args := [d] }
  | _ => none }
def fnMembersOfRow : OpenClaim := { program := "ytoipfhdlgoaldaa", sum := "f346eb8f3b96576488adda683d0d3397477083e9eba4a35e695d3a594c16c6cb", func := "loop.example/accesspolicies/laws.FnMembersOf", spec := "fnMembersOf", unfollowed := true, recurses := true, apart := false }
def FnMembersOfSaid : Prop := fnMembersOfRow.holds Try.pinned (OpenSpec.ofChange fnMembersOfSpec)

/-- ITS FALSE NEIGHBOUR: 'it returns false'. Refute it at one input. -/
def fnMembersOfWrong : ChangeSpec := { name := "fnMembersOf", fn := fun _ => fun
  | [d] => { results := [.lit (.bool false)], args := [d] }
  | _ => none }
def FnMembersOfWrongFalsely : Prop := fnMembersOfRow.holds Try.pinned (OpenSpec.ofChange fnMembersOfWrong)

/-- 'laws.FnConforms': WHATEVER THE INPUT: true; the input reads as it did. -/
def fnConformsSpec : ChangeSpec := { name := "fnConforms", fn := fun _ => fun
  | [d] => { results := [.lit (.bool true)], args := [d] }
  | _ => none }
def fnConformsRow : OpenClaim := { program := "ytoipfhdlgoaldaa", sum := "f346eb8f3b96576488adda683d0d3397477083e9eba4a35e695d3a594c16c6cb", func := "loop.example/accesspolicies/laws.FnConforms", spec := "fnConforms", apart := false }
def FnConformsSaid : Prop := fnConformsRow.holds Try.pinned (OpenSpec.ofChange fnConformsSpec)

/-- ITS FALSE NEIGHBOUR: 'it returns false'. Refute it at one input. -/
def fnConformsWrong : ChangeSpec := { name := "fnConforms", fn := fun _ => fun
  | [d] => { results := [.lit (.bool false)], args := [d] }
  | _ => none }
def FnConformsWrongFalsely : Prop := fnConformsRow.holds Try.pinned (OpenSpec.ofChange fnConformsWrong)

/- THE SECOND FORM. 'bulk': how many values and letters a reading holds, each counted each time it is reached (what is shared counts as often as it is met; a slice's spare places count too). A statement '..UptoSaid' is the law's where the arguments, and the package variables that the reading takes, are together of bulk at most 1048576: NARROWER than '..Said'. Prove '..Said' where nothing that the law and all that it calls make is longer than what came in: it says more and counts as full. Else prove '..UptoSaid'. A law counts once. -/
mutual
def uptoBulk {H : Type} : DataW H → Nat
  | .lit (.string bytes) => bytes.length + 1
  | .lit _ => 1
  | .nil => 1
  | .ptr d => uptoBulk d + 1
  | .slice elems spare => uptoBulkAll elems + uptoBulkAll spare + 1
  | .agg parts => uptoBulkAll parts + 1
  | .iface _ d => uptoBulk d + 1
  | .map entries => uptoBulkEntries entries + 1
  | .held _ => 1
def uptoBulkAll {H : Type} : List (DataW H) → Nat
  | [] => 0
  | d :: r => uptoBulk d + uptoBulkAll r
def uptoBulkEntries {H : Type} : List (Lit × DataW H) → Nat
  | [] => 0
  | x :: r => uptoBulkEntry x + uptoBulkEntries r
def uptoBulkEntry {H : Type} : Lit × DataW H → Nat
  | (.string bytes, d) => bytes.length + uptoBulk d + 1
  | (_, d) => uptoBulk d + 1
 end
def uptoSmall : (H : Type) → List (DataW H) → Bool := fun _ ds => decide (uptoBulkAll ds ≤ 1048576)
def OpenSpec.upto (s : _root_.Go.ChangeSpec) : _root_.Go.OpenSpec := { _root_.Go.OpenSpec.ofChange s with cond := some uptoSmall }

/-- 'laws.FnIsIn', WHERE WHAT IT READS IS OF BULK AT MOST 1048576: true; the input reads as it did. -/
def fnIsInUptoRow : OpenClaim := { program := "ytoipfhdlgoaldaa", sum := "f346eb8f3b96576488adda683d0d3397477083e9eba4a35e695d3a594c16c6cb", func := "loop.example/accesspolicies/laws.FnIsIn", spec := "fnIsIn", unfollowed := true, recurses := true, apart := false, narrowed := true }
def FnIsInUptoSaid : Prop := fnIsInUptoRow.holds Try.pinned (OpenSpec.upto fnIsInSpec)

/-- 'laws.FnGroupsOf', WHERE WHAT IT READS IS OF BULK AT MOST 1048576: true; the input reads as it did. -/
def fnGroupsOfUptoRow : OpenClaim := { program := "ytoipfhdlgoaldaa", sum := "f346eb8f3b96576488adda683d0d3397477083e9eba4a35e695d3a594c16c6cb", func := "loop.example/accesspolicies/laws.FnGroupsOf", spec := "fnGroupsOf", unfollowed := true, recurses := true, apart := false, narrowed := true }
def FnGroupsOfUptoSaid : Prop := fnGroupsOfUptoRow.holds Try.pinned (OpenSpec.upto fnGroupsOfSpec)

/-- 'laws.FnAllRequests', WHERE WHAT IT READS IS OF BULK AT MOST 1048576: true; the input reads as it did. -/
def fnAllRequestsUptoRow : OpenClaim := { program := "ytoipfhdlgoaldaa", sum := "f346eb8f3b96576488adda683d0d3397477083e9eba4a35e695d3a594c16c6cb", func := "loop.example/accesspolicies/laws.FnAllRequests", spec := "fnAllRequests", apart := false, narrowed := true }
def FnAllRequestsUptoSaid : Prop := fnAllRequestsUptoRow.holds Try.pinned (OpenSpec.upto fnAllRequestsSpec)

/-- 'laws.FnMembersOf', WHERE WHAT IT READS IS OF BULK AT MOST 1048576: true; the input reads as it did. -/
def fnMembersOfUptoRow : OpenClaim := { program := "ytoipfhdlgoaldaa", sum := "f346eb8f3b96576488adda683d0d3397477083e9eba4a35e695d3a594c16c6cb", func := "loop.example/accesspolicies/laws.FnMembersOf", spec := "fnMembersOf", unfollowed := true, recurses := true, apart := false, narrowed := true }
def FnMembersOfUptoSaid : Prop := fnMembersOfUptoRow.holds Try.pinned (OpenSpec.upto fnMembersOfSpec)

/-- 'laws.FnConforms', WHERE WHAT IT READS IS OF BULK AT MOST 1048576: true; the input reads as it did. -/
def fnConformsUptoRow : OpenClaim := { program := "ytoipfhdlgoaldaa", sum := "f346eb8f3b96576488adda683d0d3397477083e9eba4a35e695d3a594c16c6cb", func := "loop.example/accesspolicies/laws.FnConforms", spec := "fnConforms", apart := false, narrowed := true }
def FnConformsUptoSaid : Prop := fnConformsUptoRow.holds Try.pinned (OpenSpec.upto fnConformsSpec)

end Rows
end Go.Proofs.Ytoipfhdlgoaldaa
