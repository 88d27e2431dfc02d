/-
  No cell of these rows narrows 'for every input' (looked for: loops, veiled, ifaces, maps, wideKeys, modest, calm, conditions, laid).
  DERIVED. THE GIVEN ROWS OF THIS SEAT. 6 by the template 'for every input the law returns true; each argument reads behind the call as it read before'; 0 by the template 'total and deterministic' (their statements: YtacpkmdnoggmoaaTotals.lean).
  GIVEN WITH THE SEED: the statements are not yours to turn. If you find one false, say at which input.
  Laid BY PROGRAM, IN A SANDBOX (cutbox-rows.mjs): the forced cells as the released guide's own fill.sh prints them over the translation ceac10d4d4b99624… (all of the seat's roots in one cut). By AI agents, Wed Nov 11 2026. No macro, syntax, notation, axiom, sorry.
-/
import Derived.Test.YtacpkmdnoggmoaaChecked
import GoSem.Claim
import GoSem.ClaimJoined
import GoSem.ClaimMapViews
import Derived.JoinedTies
import Derived.KernelRfl
namespace Go.Proofs.Ytacpkmdnoggmoaa
/- THE CELL 'sum', in the pinned program and in every row, IS THE sha256 OF THE DUMP (.gsa) THAT YtacpkmdnoggmoaaProg.lean LOADS. Nothing in Lean hashes anything: it is a label: what it is worth is what the hold of that sum in a sandbox is worth. -/
noncomputable def Try.pinned : Pinned := { name := "ytacpkmdnoggmoaa", sum := "ceac10d4d4b99624045bf65862396577feb69995b9e77effa618479d78b8a0ae", checked := Try.checked }
namespace Rows
def none {H : Type} : Left H := { results := [], args := [] }

/-- 'laws.FnExactIsIn': WHATEVER THE INPUT: true; the input reads as it did. -/
def fnExactIsInSpec : ChangeSpec := { name := "fnExactIsIn", fn := fun _ => fun
  | [d1, d2, d3] => { results := [.lit (.bool true)], args := [d1, d2, d3] }
  | _ => none }
def fnExactIsInRow : OpenClaim := { program := "ytacpkmdnoggmoaa", sum := "ceac10d4d4b99624045bf65862396577feb69995b9e77effa618479d78b8a0ae", func := "loop.example/accesspolicies/laws.FnExactIsIn", spec := "fnExactIsIn", unfollowed := true, recurses := true, apart := false }
def FnExactIsInSaid : Prop := fnExactIsInRow.holds Try.pinned (OpenSpec.ofChange fnExactIsInSpec)

/-- ITS FALSE NEIGHBOUR: 'it returns false'. Refute it at one input. -/
def fnExactIsInWrong : ChangeSpec := { name := "fnExactIsIn", fn := fun _ => fun
  | [d1, d2, d3] => { results := [.lit (.bool false)], args := [d1, d2, d3] }
  | _ => none }
def FnExactIsInWrongFalsely : Prop := fnExactIsInRow.holds Try.pinned (OpenSpec.ofChange fnExactIsInWrong)

/-- 'laws.FnExactRequestValid': WHATEVER THE INPUT: true; the input reads as it did. -/
def fnExactRequestValidSpec : ChangeSpec := { name := "fnExactRequestValid", fn := fun _ => fun
  | [d1, d2] => { results := [.lit (.bool true)], args := [d1, d2] }
  | _ => none }
def fnExactRequestValidRow : OpenClaim := { program := "ytacpkmdnoggmoaa", sum := "ceac10d4d4b99624045bf65862396577feb69995b9e77effa618479d78b8a0ae", func := "loop.example/accesspolicies/laws.FnExactRequestValid", spec := "fnExactRequestValid", apart := false }
def FnExactRequestValidSaid : Prop := fnExactRequestValidRow.holds Try.pinned (OpenSpec.ofChange fnExactRequestValidSpec)

/-- ITS FALSE NEIGHBOUR: 'it returns false'. Refute it at one input. -/
def fnExactRequestValidWrong : ChangeSpec := { name := "fnExactRequestValid", fn := fun _ => fun
  | [d1, d2] => { results := [.lit (.bool false)], args := [d1, d2] }
  | _ => none }
def FnExactRequestValidWrongFalsely : Prop := fnExactRequestValidRow.holds Try.pinned (OpenSpec.ofChange fnExactRequestValidWrong)

/-- 'laws.FnExactGroupsOf': WHATEVER THE INPUT: true; the input reads as it did. -/
def fnExactGroupsOfSpec : ChangeSpec := { name := "fnExactGroupsOf", fn := fun _ => fun
  | [d1, d2] => { results := [.lit (.bool true)], args := [d1, d2] }
  | _ => none }
def fnExactGroupsOfRow : OpenClaim := { program := "ytacpkmdnoggmoaa", sum := "ceac10d4d4b99624045bf65862396577feb69995b9e77effa618479d78b8a0ae", func := "loop.example/accesspolicies/laws.FnExactGroupsOf", spec := "fnExactGroupsOf", unfollowed := true, recurses := true, apart := false }
def FnExactGroupsOfSaid : Prop := fnExactGroupsOfRow.holds Try.pinned (OpenSpec.ofChange fnExactGroupsOfSpec)

/-- ITS FALSE NEIGHBOUR: 'it returns false'. Refute it at one input. -/
def fnExactGroupsOfWrong : ChangeSpec := { name := "fnExactGroupsOf", fn := fun _ => fun
  | [d1, d2] => { results := [.lit (.bool false)], args := [d1, d2] }
  | _ => none }
def FnExactGroupsOfWrongFalsely : Prop := fnExactGroupsOfRow.holds Try.pinned (OpenSpec.ofChange fnExactGroupsOfWrong)

/-- 'laws.FnExactMembersOf': WHATEVER THE INPUT: true; the input reads as it did. -/
def fnExactMembersOfSpec : ChangeSpec := { name := "fnExactMembersOf", fn := fun _ => fun
  | [d1, d2] => { results := [.lit (.bool true)], args := [d1, d2] }
  | _ => none }
def fnExactMembersOfRow : OpenClaim := { program := "ytacpkmdnoggmoaa", sum := "ceac10d4d4b99624045bf65862396577feb69995b9e77effa618479d78b8a0ae", func := "loop.example/accesspolicies/laws.FnExactMembersOf", spec := "fnExactMembersOf", unfollowed := true, recurses := true, apart := false }
def FnExactMembersOfSaid : Prop := fnExactMembersOfRow.holds Try.pinned (OpenSpec.ofChange fnExactMembersOfSpec)

/-- ITS FALSE NEIGHBOUR: 'it returns false'. Refute it at one input. -/
def fnExactMembersOfWrong : ChangeSpec := { name := "fnExactMembersOf", fn := fun _ => fun
  | [d1, d2] => { results := [.lit (.bool false)], args := [d1, d2] }
  | _ => none }
def FnExactMembersOfWrongFalsely : Prop := fnExactMembersOfRow.holds Try.pinned (OpenSpec.ofChange fnExactMembersOfWrong)

/-- 'laws.FnExactAllRequests': WHATEVER THE INPUT: true; the input reads as it did. -/
def fnExactAllRequestsSpec : ChangeSpec := { name := "fnExactAllRequests", fn := fun _ => fun
  | [d1, d2] => { results := [.lit (.bool true)], args := [d1, d2] }
  | _ => none }
def fnExactAllRequestsRow : OpenClaim := { program := "ytacpkmdnoggmoaa", sum := "ceac10d4d4b99624045bf65862396577feb69995b9e77effa618479d78b8a0ae", func := "loop.example/accesspolicies/laws.FnExactAllRequests", spec := "fnExactAllRequests", apart := false }
def FnExactAllRequestsSaid : Prop := fnExactAllRequestsRow.holds Try.pinned (OpenSpec.ofChange fnExactAllRequestsSpec)

/-- ITS FALSE NEIGHBOUR: 'it returns false'. Refute it at one input. -/
def fnExactAllRequestsWrong : ChangeSpec := { name := "fnExactAllRequests", fn := fun _ => fun
  | [d1, d2] => { results := [.lit (.bool false)], args := [d1, d2] }
  | _ => none }
def FnExactAllRequestsWrongFalsely : Prop := fnExactAllRequestsRow.holds Try.pinned (OpenSpec.ofChange fnExactAllRequestsWrong)

/-- 'laws.FnExactConforms': WHATEVER THE INPUT: true; the input reads as it did. -/
def fnExactConformsSpec : ChangeSpec := { name := "fnExactConforms", fn := fun _ => fun
  | [d1, d2, d3] => { results := [.lit (.bool true)], args := [d1, d2, d3] }
  | _ => none }
def fnExactConformsRow : OpenClaim := { program := "ytacpkmdnoggmoaa", sum := "ceac10d4d4b99624045bf65862396577feb69995b9e77effa618479d78b8a0ae", func := "loop.example/accesspolicies/laws.FnExactConforms", spec := "fnExactConforms", apart := false }
def FnExactConformsSaid : Prop := fnExactConformsRow.holds Try.pinned (OpenSpec.ofChange fnExactConformsSpec)

/-- ITS FALSE NEIGHBOUR: 'it returns false'. Refute it at one input. -/
def fnExactConformsWrong : ChangeSpec := { name := "fnExactConforms", fn := fun _ => fun
  | [d1, d2, d3] => { results := [.lit (.bool false)], args := [d1, d2, d3] }
  | _ => none }
def FnExactConformsWrongFalsely : Prop := fnExactConformsRow.holds Try.pinned (OpenSpec.ofChange fnExactConformsWrong)

/- THE SECOND FORM. 'bulk': how many values and letters a reading holds, each counted each time it is reached (what is shared counts as often as it is met; a slice's spare places count too). A statement '..UptoSaid' is the law's where the arguments, and the package variables that the reading takes, are together of bulk at most 1048576: NARROWER than '..Said'. Prove '..Said' where nothing that the law and all that it calls make is longer than what came in: it says more and counts as full. Else prove '..UptoSaid'. A law counts once. -/
mutual
def uptoBulk {H : Type} : DataW H → Nat
  | .lit (.string bytes) => bytes.length + 1
  | .lit _ => 1
  | .nil => 1
  | .ptr d => uptoBulk d + 1
  | .slice elems spare => uptoBulkAll elems + uptoBulkAll spare + 1
  | .agg parts => uptoBulkAll parts + 1
  | .iface _ d => uptoBulk d + 1
  | .map entries => uptoBulkEntries entries + 1
  | .held _ => 1
def uptoBulkAll {H : Type} : List (DataW H) → Nat
  | [] => 0
  | d :: r => uptoBulk d + uptoBulkAll r
def uptoBulkEntries {H : Type} : List (Lit × DataW H) → Nat
  | [] => 0
  | x :: r => uptoBulkEntry x + uptoBulkEntries r
def uptoBulkEntry {H : Type} : Lit × DataW H → Nat
  | (.string bytes, d) => bytes.length + uptoBulk d + 1
  | (_, d) => uptoBulk d + 1
 end
def uptoSmall : (H : Type) → List (DataW H) → Bool := fun _ ds => decide (uptoBulkAll ds ≤ 1048576)
def OpenSpec.upto (s : _root_.Go.ChangeSpec) : _root_.Go.OpenSpec := { _root_.Go.OpenSpec.ofChange s with cond := some uptoSmall }

/-- 'laws.FnExactIsIn', WHERE WHAT IT READS IS OF BULK AT MOST 1048576: true; the input reads as it did. -/
def fnExactIsInUptoRow : OpenClaim := { program := "ytacpkmdnoggmoaa", sum := "ceac10d4d4b99624045bf65862396577feb69995b9e77effa618479d78b8a0ae", func := "loop.example/accesspolicies/laws.FnExactIsIn", spec := "fnExactIsIn", unfollowed := true, recurses := true, apart := false, narrowed := true }
def FnExactIsInUptoSaid : Prop := fnExactIsInUptoRow.holds Try.pinned (OpenSpec.upto fnExactIsInSpec)

/-- 'laws.FnExactRequestValid', WHERE WHAT IT READS IS OF BULK AT MOST 1048576: true; the input reads as it did. -/
def fnExactRequestValidUptoRow : OpenClaim := { program := "ytacpkmdnoggmoaa", sum := "ceac10d4d4b99624045bf65862396577feb69995b9e77effa618479d78b8a0ae", func := "loop.example/accesspolicies/laws.FnExactRequestValid", spec := "fnExactRequestValid", apart := false, narrowed := true }
def FnExactRequestValidUptoSaid : Prop := fnExactRequestValidUptoRow.holds Try.pinned (OpenSpec.upto fnExactRequestValidSpec)

/-- 'laws.FnExactGroupsOf', WHERE WHAT IT READS IS OF BULK AT MOST 1048576: true; the input reads as it did. -/
def fnExactGroupsOfUptoRow : OpenClaim := { program := "ytacpkmdnoggmoaa", sum := "ceac10d4d4b99624045bf65862396577feb69995b9e77effa618479d78b8a0ae", func := "loop.example/accesspolicies/laws.FnExactGroupsOf", spec := "fnExactGroupsOf", unfollowed := true, recurses := true, apart := false, narrowed := true }
def FnExactGroupsOfUptoSaid : Prop := fnExactGroupsOfUptoRow.holds Try.pinned (OpenSpec.upto fnExactGroupsOfSpec)

/-- 'laws.FnExactMembersOf', WHERE WHAT IT READS IS OF BULK AT MOST 1048576: true; the input reads as it did. -/
def fnExactMembersOfUptoRow : OpenClaim := { program := "ytacpkmdnoggmoaa", sum := "ceac10d4d4b99624045bf65862396577feb69995b9e77effa618479d78b8a0ae", func := "loop.example/accesspolicies/laws.FnExactMembersOf", spec := "fnExactMembersOf", unfollowed := true, recurses := true, apart := false, narrowed := true }
def FnExactMembersOfUptoSaid : Prop := fnExactMembersOfUptoRow.holds Try.pinned (OpenSpec.upto fnExactMembersOfSpec)

/-- 'laws.FnExactAllRequests', WHERE WHAT IT READS IS OF BULK AT MOST 1048576: true; the input reads as it did. -/
def fnExactAllRequestsUptoRow : OpenClaim := { program := "ytacpkmdnoggmoaa", sum := "ceac10d4d4b99624045bf65862396577feb69995b9e77effa618479d78b8a0ae", func := "loop.example/accesspolicies/laws.FnExactAllRequests", spec := "fnExactAllRequests", apart := false, narrowed := true }
def FnExactAllRequestsUptoSaid : Prop := fnExactAllRequestsUptoRow.holds Try.pinned (OpenSpec.upto fnExactAllRequestsSpec)

/-- 'laws.FnExactConforms', WHERE WHAT IT READS IS OF BULK AT MOST 1048576: true; the input reads as it did. -/
def fnExactConformsUptoRow : OpenClaim := { program := "ytacpkmdnoggmoaa", sum := "ceac10d4d4b99624045bf65862396577feb69995b9e77effa618479d78b8a0ae", func := "loop.example/accesspolicies/laws.FnExactConforms", spec := "fnExactConforms", apart := false, narrowed := true }
def FnExactConformsUptoSaid : Prop := fnExactConformsUptoRow.holds Try.pinned (OpenSpec.upto fnExactConformsSpec)

end Rows
end Go.Proofs.Ytacpkmdnoggmoaa
