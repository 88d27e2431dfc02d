/-
  NARROWER THAN 'FOR EVERY INPUT', by the rows' own cells (each row's printed sentence says how): FnExactPoliciesValid: loops.
  DERIVED. THE GIVEN ROWS OF THIS SEAT. 8 by the template 'for every input the law returns true; each argument reads behind the call as it read before'; 0 by the template 'total and deterministic' (their statements: YtongmkdapcgmfaaTotals.lean).
  GIVEN WITH THE SEED: the statements are not yours to turn. If you find one false, say at which input.
  Laid BY PROGRAM, IN A SANDBOX (cutbox-rows.mjs): the forced cells as the released guide's own fill.sh prints them over the translation 9d3d977cfe9edafc… (all of the seat's roots in one cut). By AI agents, Wed Nov 11 2026. No macro, syntax, notation, axiom, sorry.
-/
import Derived.Test.YtongmkdapcgmfaaChecked
import GoSem.Claim
import GoSem.ClaimJoined
import GoSem.ClaimMapViews
import Derived.JoinedTies
import Derived.KernelRfl
namespace Go.Proofs.Ytongmkdapcgmfaa
/- THE CELL 'sum', in the pinned program and in every row, IS THE sha256 OF THE DUMP (.gsa) THAT YtongmkdapcgmfaaProg.lean LOADS. Nothing in Lean hashes anything: it is a label: what it is worth is what the hold of that sum in a sandbox is worth. -/
noncomputable def Try.pinned : Pinned := { name := "ytongmkdapcgmfaa", sum := "9d3d977cfe9edafc8801d6ba68f94a74110cf7f4e9c1148ca0f6560beb342334", checked := Try.checked }
namespace Rows
def none {H : Type} : Left H := { results := [], args := [] }

/-- 'laws.FnPolicyValid': WHATEVER THE INPUT: true; the input reads as it did. -/
def fnPolicyValidSpec : ChangeSpec := { name := "fnPolicyValid", fn := fun _ => fun
  | [d] => { results := [.lit (.bool true)], args := [d] }
  | _ => none }
def fnPolicyValidRow : OpenClaim := { program := "ytongmkdapcgmfaa", sum := "9d3d977cfe9edafc8801d6ba68f94a74110cf7f4e9c1148ca0f6560beb342334", func := "loop.example/accesspolicies/laws.FnPolicyValid", spec := "fnPolicyValid", recurses := true, apart := false }
def FnPolicyValidSaid : Prop := fnPolicyValidRow.holds Try.pinned (OpenSpec.ofChange fnPolicyValidSpec)

/-- ITS FALSE NEIGHBOUR: 'it returns false'. Refute it at one input. -/
def fnPolicyValidWrong : ChangeSpec := { name := "fnPolicyValid", fn := fun _ => fun
  | [d] => { results := [.lit (.bool false)], args := [d] }
  | _ => none }
def FnPolicyValidWrongFalsely : Prop := fnPolicyValidRow.holds Try.pinned (OpenSpec.ofChange fnPolicyValidWrong)

/-- 'laws.FnGroupsOf': WHATEVER THE INPUT: true; the input reads as it did. -/
def fnGroupsOfSpec : ChangeSpec := { name := "fnGroupsOf", fn := fun _ => fun
  | [d] => { results := [.lit (.bool true)], args := [d] }
  | _ => none }
def fnGroupsOfRow : OpenClaim := { program := "ytongmkdapcgmfaa", sum := "9d3d977cfe9edafc8801d6ba68f94a74110cf7f4e9c1148ca0f6560beb342334", func := "loop.example/accesspolicies/laws.FnGroupsOf", spec := "fnGroupsOf", unfollowed := true, recurses := true, apart := false }
def FnGroupsOfSaid : Prop := fnGroupsOfRow.holds Try.pinned (OpenSpec.ofChange fnGroupsOfSpec)

/-- ITS FALSE NEIGHBOUR: 'it returns false'. Refute it at one input. -/
def fnGroupsOfWrong : ChangeSpec := { name := "fnGroupsOf", fn := fun _ => fun
  | [d] => { results := [.lit (.bool false)], args := [d] }
  | _ => none }
def FnGroupsOfWrongFalsely : Prop := fnGroupsOfRow.holds Try.pinned (OpenSpec.ofChange fnGroupsOfWrong)

/-- 'laws.FnAllRequests': WHATEVER THE INPUT: true; the input reads as it did. -/
def fnAllRequestsSpec : ChangeSpec := { name := "fnAllRequests", fn := fun _ => fun
  | [d] => { results := [.lit (.bool true)], args := [d] }
  | _ => none }
def fnAllRequestsRow : OpenClaim := { program := "ytongmkdapcgmfaa", sum := "9d3d977cfe9edafc8801d6ba68f94a74110cf7f4e9c1148ca0f6560beb342334", func := "loop.example/accesspolicies/laws.FnAllRequests", spec := "fnAllRequests", apart := false }
def FnAllRequestsSaid : Prop := fnAllRequestsRow.holds Try.pinned (OpenSpec.ofChange fnAllRequestsSpec)

/-- ITS FALSE NEIGHBOUR: 'it returns false'. Refute it at one input. -/
def fnAllRequestsWrong : ChangeSpec := { name := "fnAllRequests", fn := fun _ => fun
  | [d] => { results := [.lit (.bool false)], args := [d] }
  | _ => none }
def FnAllRequestsWrongFalsely : Prop := fnAllRequestsRow.holds Try.pinned (OpenSpec.ofChange fnAllRequestsWrong)

/-- 'laws.FnThingsUsed': WHATEVER THE INPUT: true; the input reads as it did. -/
def fnThingsUsedSpec : ChangeSpec := { name := "fnThingsUsed", fn := fun _ => fun
  | [d] => { results := [.lit (.bool true)], args := [d] }
  | _ => none }
def fnThingsUsedRow : OpenClaim := { program := "ytongmkdapcgmfaa", sum := "9d3d977cfe9edafc8801d6ba68f94a74110cf7f4e9c1148ca0f6560beb342334", func := "loop.example/accesspolicies/laws.FnThingsUsed", spec := "fnThingsUsed", unfollowed := true, recurses := true, apart := false }
def FnThingsUsedSaid : Prop := fnThingsUsedRow.holds Try.pinned (OpenSpec.ofChange fnThingsUsedSpec)

/-- ITS FALSE NEIGHBOUR: 'it returns false'. Refute it at one input. -/
def fnThingsUsedWrong : ChangeSpec := { name := "fnThingsUsed", fn := fun _ => fun
  | [d] => { results := [.lit (.bool false)], args := [d] }
  | _ => none }
def FnThingsUsedWrongFalsely : Prop := fnThingsUsedRow.holds Try.pinned (OpenSpec.ofChange fnThingsUsedWrong)

/-- 'laws.FnExactWorldValid': WHATEVER THE INPUT: true; the input reads as it did. -/
def fnExactWorldValidSpec : ChangeSpec := { name := "fnExactWorldValid", fn := fun _ => fun
  | [d] => { results := [.lit (.bool true)], args := [d] }
  | _ => none }
def fnExactWorldValidRow : OpenClaim := { program := "ytongmkdapcgmfaa", sum := "9d3d977cfe9edafc8801d6ba68f94a74110cf7f4e9c1148ca0f6560beb342334", func := "loop.example/accesspolicies/laws.FnExactWorldValid", spec := "fnExactWorldValid", apart := false }
def FnExactWorldValidSaid : Prop := fnExactWorldValidRow.holds Try.pinned (OpenSpec.ofChange fnExactWorldValidSpec)

/-- ITS FALSE NEIGHBOUR: 'it returns false'. Refute it at one input. -/
def fnExactWorldValidWrong : ChangeSpec := { name := "fnExactWorldValid", fn := fun _ => fun
  | [d] => { results := [.lit (.bool false)], args := [d] }
  | _ => none }
def FnExactWorldValidWrongFalsely : Prop := fnExactWorldValidRow.holds Try.pinned (OpenSpec.ofChange fnExactWorldValidWrong)

/-- 'laws.FnMembersOf': WHATEVER THE INPUT: true; the input reads as it did. -/
def fnMembersOfSpec : ChangeSpec := { name := "fnMembersOf", fn := fun _ => fun
  | [d] => { results := [.lit (.bool true)], args := [d] }
  | _ => none }
def fnMembersOfRow : OpenClaim := { program := "ytongmkdapcgmfaa", sum := "9d3d977cfe9edafc8801d6ba68f94a74110cf7f4e9c1148ca0f6560beb342334", func := "loop.example/accesspolicies/laws.FnMembersOf", spec := "fnMembersOf", unfollowed := true, recurses := true, apart := false }
def FnMembersOfSaid : Prop := fnMembersOfRow.holds Try.pinned (OpenSpec.ofChange fnMembersOfSpec)

/-- ITS FALSE NEIGHBOUR: 'it returns false'. Refute it at one input. -/
def fnMembersOfWrong : ChangeSpec := { name := "fnMembersOf", fn := fun _ => fun
  | [d] => { results := [.lit (.bool false)], args := [d] }
  | _ => none }
def FnMembersOfWrongFalsely : Prop := fnMembersOfRow.holds Try.pinned (OpenSpec.ofChange fnMembersOfWrong)

/-- 'laws.FnExactPoliciesValid': WHATEVER THE INPUT: true; the input reads as it did. -/
def fnExactPoliciesValidSpec : ChangeSpec := { name := "fnExactPoliciesValid", fn := fun _ => fun
  | [d] => { results := [.lit (.bool true)], args := [d] }
  | _ => none }
def fnExactPoliciesValidRow : OpenClaim := { program := "ytongmkdapcgmfaa", sum := "9d3d977cfe9edafc8801d6ba68f94a74110cf7f4e9c1148ca0f6560beb342334", func := "loop.example/accesspolicies/laws.FnExactPoliciesValid", spec := "fnExactPoliciesValid", recurses := true, loops := true, apart := false }
def FnExactPoliciesValidSaid : Prop := fnExactPoliciesValidRow.holds Try.pinned (OpenSpec.ofChange fnExactPoliciesValidSpec)

/-- ITS FALSE NEIGHBOUR: 'it returns false'. Refute it at one input. -/
def fnExactPoliciesValidWrong : ChangeSpec := { name := "fnExactPoliciesValid", fn := fun _ => fun
  | [d] => { results := [.lit (.bool false)], args := [d] }
  | _ => none }
def FnExactPoliciesValidWrongFalsely : Prop := fnExactPoliciesValidRow.holds Try.pinned (OpenSpec.ofChange fnExactPoliciesValidWrong)

/-- 'laws.FnExactIsIn': WHATEVER THE INPUT: true; the input reads as it did. -/
def fnExactIsInSpec : ChangeSpec := { name := "fnExactIsIn", fn := fun _ => fun
  | [d1, d2, d3] => { results := [.lit (.bool true)], args := [d1, d2, d3] }
  | _ => none }
def fnExactIsInRow : OpenClaim := { program := "ytongmkdapcgmfaa", sum := "9d3d977cfe9edafc8801d6ba68f94a74110cf7f4e9c1148ca0f6560beb342334", func := "loop.example/accesspolicies/laws.FnExactIsIn", spec := "fnExactIsIn", unfollowed := true, recurses := true, apart := false }
def FnExactIsInSaid : Prop := fnExactIsInRow.holds Try.pinned (OpenSpec.ofChange fnExactIsInSpec)

/-- ITS FALSE NEIGHBOUR: 'it returns false'. Refute it at one input. -/
def fnExactIsInWrong : ChangeSpec := { name := "fnExactIsIn", fn := fun _ => fun
  | [d1, d2, d3] => { results := [.lit (.bool false)], args := [d1, d2, d3] }
  | _ => none }
def FnExactIsInWrongFalsely : Prop := fnExactIsInRow.holds Try.pinned (OpenSpec.ofChange fnExactIsInWrong)

/- THE SECOND FORM. 'bulk': how many values and letters a reading holds, each counted each time it is reached (what is shared counts as often as it is met; a slice's spare places count too). A statement '..UptoSaid' is the law's where the arguments, and the package variables that the reading takes, are together of bulk at most 1048576: NARROWER than '..Said'. Prove '..Said' where nothing that the law and all that it calls make is longer than what came in: it says more and counts as full. Else prove '..UptoSaid'. A law counts once. -/
mutual
def uptoBulk {H : Type} : DataW H → Nat
  | .lit (.string bytes) => bytes.length + 1
  | .lit _ => 1
  | .nil => 1
  | .ptr d => uptoBulk d + 1
  | .slice elems spare => uptoBulkAll elems + uptoBulkAll spare + 1
  | .agg parts => uptoBulkAll parts + 1
  | .iface _ d => uptoBulk d + 1
  | .map entries => uptoBulkEntries entries + 1
  | .held _ => 1
def uptoBulkAll {H : Type} : List (DataW H) → Nat
  | [] => 0
  | d :: r => uptoBulk d + uptoBulkAll r
def uptoBulkEntries {H : Type} : List (Lit × DataW H) → Nat
  | [] => 0
  | x :: r => uptoBulkEntry x + uptoBulkEntries r
def uptoBulkEntry {H : Type} : Lit × DataW H → Nat
  | (.string bytes, d) => bytes.length + uptoBulk d + 1
  | (_, d) => uptoBulk d + 1
 end
def uptoSmall : (H : Type) → List (DataW H) → Bool := fun _ ds => decide (uptoBulkAll ds ≤ 1048576)
def OpenSpec.upto (s : _root_.Go.ChangeSpec) : _root_.Go.OpenSpec := { _root_.Go.OpenSpec.ofChange s with cond := some uptoSmall }

/-- 'laws.FnPolicyValid', WHERE WHAT IT READS IS OF BULK AT MOST 1048576: true; the input reads as it did. -/
def fnPolicyValidUptoRow : OpenClaim := { program := "ytongmkdapcgmfaa", sum := "9d3d977cfe9edafc8801d6ba68f94a74110cf7f4e9c1148ca0f6560beb342334", func := "loop.example/accesspolicies/laws.FnPolicyValid", spec := "fnPolicyValid", recurses := true, apart := false, narrowed := true }
def FnPolicyValidUptoSaid : Prop := fnPolicyValidUptoRow.holds Try.pinned (OpenSpec.upto fnPolicyValidSpec)

/-- 'laws.FnGroupsOf', WHERE WHAT IT READS IS OF BULK AT MOST 1048576: true; the input reads as it did. -/
def fnGroupsOfUptoRow : OpenClaim := { program := "ytongmkdapcgmfaa", sum := "9d3d977cfe9edafc8801d6ba68f94a74110cf7f4e9c1148ca0f6560beb342334", func := "loop.example/accesspolicies/laws.FnGroupsOf", spec := "fnGroupsOf", unfollowed := true, recurses := true, apart := false, narrowed := true }
def FnGroupsOfUptoSaid : Prop := fnGroupsOfUptoRow.holds Try.pinned (OpenSpec.upto fnGroupsOfSpec)

/-- 'laws.FnAllRequests', WHERE WHAT IT READS IS OF BULK AT MOST 1048576: true; the input reads as it did. -/
def fnAllRequestsUptoRow : OpenClaim := { program := "ytongmkdapcgmfaa", sum := "9d3d977cfe9edafc8801d6ba68f94a74110cf7f4e9c1148ca0f6560beb342334", func := "loop.example/accesspolicies/laws.FnAllRequests", spec := "fnAllRequests", apart := false, narrowed := true }
def FnAllRequestsUptoSaid : Prop := fnAllRequestsUptoRow.holds Try.pinned (OpenSpec.upto fnAllRequestsSpec)

/-- 'laws.FnThingsUsed', WHERE WHAT IT READS IS OF BULK AT MOST 1048576: true; the input reads as it did. -/
def fnThingsUsedUptoRow : OpenClaim := { program := "ytongmkdapcgmfaa", sum := "9d3d977cfe9edafc8801d6ba68f94a74110cf7f4e9c1148ca0f6560beb342334", func := "loop.example/accesspolicies/laws.FnThingsUsed", spec := "fnThingsUsed", unfollowed := true, recurses := true, apart := false, narrowed := true }
def FnThingsUsedUptoSaid : Prop := fnThingsUsedUptoRow.holds Try.pinned (OpenSpec.upto fnThingsUsedSpec)

/-- 'laws.FnExactWorldValid', WHERE WHAT IT READS IS OF BULK AT MOST 1048576: true; the input reads as it did. -/
def fnExactWorldValidUptoRow : OpenClaim := { program := "ytongmkdapcgmfaa", sum := "9d3d977cfe9edafc8801d6ba68f94a74110cf7f4e9c1148ca0f6560beb342334", func := "loop.example/accesspolicies/laws.FnExactWorldValid", spec := "fnExactWorldValid", apart := false, narrowed := true }
def FnExactWorldValidUptoSaid : Prop := fnExactWorldValidUptoRow.holds Try.pinned (OpenSpec.upto fnExactWorldValidSpec)

/-- 'laws.FnMembersOf', WHERE WHAT IT READS IS OF BULK AT MOST 1048576: true; the input reads as it did. -/
def fnMembersOfUptoRow : OpenClaim := { program := "ytongmkdapcgmfaa", sum := "9d3d977cfe9edafc8801d6ba68f94a74110cf7f4e9c1148ca0f6560beb342334", func := "loop.example/accesspolicies/laws.FnMembersOf", spec := "fnMembersOf", unfollowed := true, recurses := true, apart := false, narrowed := true }
def FnMembersOfUptoSaid : Prop := fnMembersOfUptoRow.holds Try.pinned (OpenSpec.upto fnMembersOfSpec)

/-- 'laws.FnExactPoliciesValid', WHERE WHAT IT READS IS OF BULK AT MOST 1048576: true; the input reads as it did. -/
def fnExactPoliciesValidUptoRow : OpenClaim := { program := "ytongmkdapcgmfaa", sum := "9d3d977cfe9edafc8801d6ba68f94a74110cf7f4e9c1148ca0f6560beb342334", func := "loop.example/accesspolicies/laws.FnExactPoliciesValid", spec := "fnExactPoliciesValid", recurses := true, loops := true, apart := false, narrowed := true }
def FnExactPoliciesValidUptoSaid : Prop := fnExactPoliciesValidUptoRow.holds Try.pinned (OpenSpec.upto fnExactPoliciesValidSpec)

/-- 'laws.FnExactIsIn', WHERE WHAT IT READS IS OF BULK AT MOST 1048576: true; the input reads as it did. -/
def fnExactIsInUptoRow : OpenClaim := { program := "ytongmkdapcgmfaa", sum := "9d3d977cfe9edafc8801d6ba68f94a74110cf7f4e9c1148ca0f6560beb342334", func := "loop.example/accesspolicies/laws.FnExactIsIn", spec := "fnExactIsIn", unfollowed := true, recurses := true, apart := false, narrowed := true }
def FnExactIsInUptoSaid : Prop := fnExactIsInUptoRow.holds Try.pinned (OpenSpec.upto fnExactIsInSpec)

end Rows
end Go.Proofs.Ytongmkdapcgmfaa
