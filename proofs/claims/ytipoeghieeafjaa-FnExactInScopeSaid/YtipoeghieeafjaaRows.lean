/-
  NARROWER THAN 'FOR EVERY INPUT', by the rows' own cells (each row's printed sentence says how): FnExactInScope: loops · FnExactEvaluate: loops · FnExactHolds: loops · FnExactAlike: loops · FnExactApplies: loops.
  DERIVED. THE GIVEN ROWS OF THIS SEAT. 5 by the template 'for every input the law returns true; each argument reads behind the call as it read before'; 0 by the template 'total and deterministic' (their statements: YtipoeghieeafjaaTotals.lean).
  GIVEN WITH THE SEED: the statements are not yours to turn. If you find one false, say at which input.
  Laid BY PROGRAM, IN A SANDBOX (cutbox-rows.mjs): the forced cells as the released guide's own fill.sh prints them over the translation 841a870e1c01df3f… (all of the seat's roots in one cut). By AI agents, Wed Nov 11 2026. No macro, syntax, notation, axiom, sorry.
-/
import Derived.Test.YtipoeghieeafjaaChecked
import GoSem.Claim
import GoSem.ClaimJoined
import GoSem.ClaimMapViews
import Derived.JoinedTies
import Derived.KernelRfl
namespace Go.Proofs.Ytipoeghieeafjaa
/- THE CELL 'sum', in the pinned program and in every row, IS THE sha256 OF THE DUMP (.gsa) THAT YtipoeghieeafjaaProg.lean LOADS. Nothing in Lean hashes anything: it is a label: what it is worth is what the hold of that sum in a sandbox is worth. -/
noncomputable def Try.pinned : Pinned := { name := "ytipoeghieeafjaa", sum := "841a870e1c01df3f0309d261e2fd602d5004cbcf5c9336d47f031d0910af1be5", checked := Try.checked }
namespace Rows
def none {H : Type} : Left H := { results := [], args := [] }

/-- 'laws.FnExactInScope': WHATEVER THE INPUT: true; the input reads as it did. -/
def fnExactInScopeSpec : ChangeSpec := { name := "fnExactInScope", fn := fun _ => fun
  | [d1, d2, d3] => { results := [.lit (.bool true)], args := [d1, d2, d3] }
  | _ => none }
def fnExactInScopeRow : OpenClaim := { program := "ytipoeghieeafjaa", sum := "841a870e1c01df3f0309d261e2fd602d5004cbcf5c9336d47f031d0910af1be5", func := "loop.example/accesspolicies/laws.FnExactInScope", spec := "fnExactInScope", unfollowed := true, recurses := true, loops := true, apart := false }
def FnExactInScopeSaid : Prop := fnExactInScopeRow.holds Try.pinned (OpenSpec.ofChange fnExactInScopeSpec)

/-- ITS FALSE NEIGHBOUR: 'it returns false'. Refute it at one input. -/
def fnExactInScopeWrong : ChangeSpec := { name := "fnExactInScope", fn := fun _ => fun
  | [d1, d2, d3] => { results := [.lit (.bool false)], args := [d1, d2, d3] }
  | _ => none }
def FnExactInScopeWrongFalsely : Prop := fnExactInScopeRow.holds Try.pinned (OpenSpec.ofChange fnExactInScopeWrong)

/-- 'laws.FnExactEvaluate': WHATEVER THE INPUT: true; the input reads as it did. -/
def fnExactEvaluateSpec : ChangeSpec := { name := "fnExactEvaluate", fn := fun _ => fun
  | [d1, d2, d3] => { results := [.lit (.bool true)], args := [d1, d2, d3] }
  | _ => none }
def fnExactEvaluateRow : OpenClaim := { program := "ytipoeghieeafjaa", sum := "841a870e1c01df3f0309d261e2fd602d5004cbcf5c9336d47f031d0910af1be5", func := "loop.example/accesspolicies/laws.FnExactEvaluate", spec := "fnExactEvaluate", unfollowed := true, recurses := true, loops := true, apart := false }
def FnExactEvaluateSaid : Prop := fnExactEvaluateRow.holds Try.pinned (OpenSpec.ofChange fnExactEvaluateSpec)

/-- ITS FALSE NEIGHBOUR: 'it returns false'. Refute it at one input. -/
def fnExactEvaluateWrong : ChangeSpec := { name := "fnExactEvaluate", fn := fun _ => fun
  | [d1, d2, d3] => { results := [.lit (.bool false)], args := [d1, d2, d3] }
  | _ => none }
def FnExactEvaluateWrongFalsely : Prop := fnExactEvaluateRow.holds Try.pinned (OpenSpec.ofChange fnExactEvaluateWrong)

/-- 'laws.FnExactHolds': WHATEVER THE INPUT: true; the input reads as it did. -/
def fnExactHoldsSpec : ChangeSpec := { name := "fnExactHolds", fn := fun _ => fun
  | [d1, d2, d3] => { results := [.lit (.bool true)], args := [d1, d2, d3] }
  | _ => none }
def fnExactHoldsRow : OpenClaim := { program := "ytipoeghieeafjaa", sum := "841a870e1c01df3f0309d261e2fd602d5004cbcf5c9336d47f031d0910af1be5", func := "loop.example/accesspolicies/laws.FnExactHolds", spec := "fnExactHolds", unfollowed := true, recurses := true, loops := true, apart := false }
def FnExactHoldsSaid : Prop := fnExactHoldsRow.holds Try.pinned (OpenSpec.ofChange fnExactHoldsSpec)

/-- ITS FALSE NEIGHBOUR: 'it returns false'. Refute it at one input. -/
def fnExactHoldsWrong : ChangeSpec := { name := "fnExactHolds", fn := fun _ => fun
  | [d1, d2, d3] => { results := [.lit (.bool false)], args := [d1, d2, d3] }
  | _ => none }
def FnExactHoldsWrongFalsely : Prop := fnExactHoldsRow.holds Try.pinned (OpenSpec.ofChange fnExactHoldsWrong)

/-- 'laws.FnExactAlike': WHATEVER THE INPUT: true; the input reads as it did. -/
def fnExactAlikeSpec : ChangeSpec := { name := "fnExactAlike", fn := fun _ => fun
  | [d1, d2, d3, d4] => { results := [.lit (.bool true)], args := [d1, d2, d3, d4] }
  | _ => none }
def fnExactAlikeRow : OpenClaim := { program := "ytipoeghieeafjaa", sum := "841a870e1c01df3f0309d261e2fd602d5004cbcf5c9336d47f031d0910af1be5", func := "loop.example/accesspolicies/laws.FnExactAlike", spec := "fnExactAlike", unfollowed := true, recurses := true, loops := true, apart := false }
def FnExactAlikeSaid : Prop := fnExactAlikeRow.holds Try.pinned (OpenSpec.ofChange fnExactAlikeSpec)

/-- ITS FALSE NEIGHBOUR: 'it returns false'. Refute it at one input. -/
def fnExactAlikeWrong : ChangeSpec := { name := "fnExactAlike", fn := fun _ => fun
  | [d1, d2, d3, d4] => { results := [.lit (.bool false)], args := [d1, d2, d3, d4] }
  | _ => none }
def FnExactAlikeWrongFalsely : Prop := fnExactAlikeRow.holds Try.pinned (OpenSpec.ofChange fnExactAlikeWrong)

/-- 'laws.FnExactApplies': WHATEVER THE INPUT: true; the input reads as it did. -/
def fnExactAppliesSpec : ChangeSpec := { name := "fnExactApplies", fn := fun _ => fun
  | [d1, d2, d3] => { results := [.lit (.bool true)], args := [d1, d2, d3] }
  | _ => none }
def fnExactAppliesRow : OpenClaim := { program := "ytipoeghieeafjaa", sum := "841a870e1c01df3f0309d261e2fd602d5004cbcf5c9336d47f031d0910af1be5", func := "loop.example/accesspolicies/laws.FnExactApplies", spec := "fnExactApplies", unfollowed := true, recurses := true, loops := true, apart := false }
def FnExactAppliesSaid : Prop := fnExactAppliesRow.holds Try.pinned (OpenSpec.ofChange fnExactAppliesSpec)

/-- ITS FALSE NEIGHBOUR: 'it returns false'. Refute it at one input. -/
def fnExactAppliesWrong : ChangeSpec := { name := "fnExactApplies", fn := fun _ => fun
  | [d1, d2, d3] => { results := [.lit (.bool false)], args := [d1, d2, d3] }
  | _ => none }
def FnExactAppliesWrongFalsely : Prop := fnExactAppliesRow.holds Try.pinned (OpenSpec.ofChange fnExactAppliesWrong)

/- THE SECOND FORM. 'bulk': how many values and letters a reading holds, each counted each time it is reached (what is shared counts as often as it is met; a slice's spare places count too). A statement '..UptoSaid' is the law's where the arguments, and the package variables that the reading takes, are together of bulk at most 1048576: NARROWER than '..Said'. Prove '..Said' where nothing that the law and all that it calls make is longer than what came in: it says more and counts as full. Else prove '..UptoSaid'. A law counts once. -/
mutual
def uptoBulk {H : Type} : DataW H → Nat
  | .lit (.string bytes) => bytes.length + 1
  | .lit _ => 1
  | .nil => 1
  | .ptr d => uptoBulk d + 1
  | .slice elems spare => uptoBulkAll elems + uptoBulkAll spare + 1
  | .agg parts => uptoBulkAll parts + 1
  | .iface _ d => uptoBulk d + 1
  | .map entries => uptoBulkEntries entries + 1
  | .held _ => 1
def uptoBulkAll {H : Type} : List (DataW H) → Nat
  | [] => 0
  | d :: r => uptoBulk d + uptoBulkAll r
def uptoBulkEntries {H : Type} : List (Lit × DataW H) → Nat
  | [] => 0
  | x :: r => uptoBulkEntry x + uptoBulkEntries r
def uptoBulkEntry {H : Type} : Lit × DataW H → Nat
  | (.string bytes, d) => bytes.length + uptoBulk d + 1
  | (_, d) => uptoBulk d + 1
 end
def uptoSmall : (H : Type) → List (DataW H) → Bool := fun _ ds => decide (uptoBulkAll ds ≤ 1048576)
def OpenSpec.upto (s : _root_.Go.ChangeSpec) : _root_.Go.OpenSpec := { _root_.Go.OpenSpec.ofChange s with cond := some uptoSmall }

/-- 'laws.FnExactInScope', WHERE WHAT IT READS IS OF BULK AT MOST 1048576: true; the input reads as it did. -/
def fnExactInScopeUptoRow : OpenClaim := { program := "ytipoeghieeafjaa", sum := "841a870e1c01df3f0309d261e2fd602d5004cbcf5c9336d47f031d0910af1be5", func := "loop.example/accesspolicies/laws.FnExactInScope", spec := "fnExactInScope", unfollowed := true, recurses := true, loops := true, apart := false, narrowed := true }
def FnExactInScopeUptoSaid : Prop := fnExactInScopeUptoRow.holds Try.pinned (OpenSpec.upto fnExactInScopeSpec)

/-- 'laws.FnExactEvaluate', WHERE WHAT IT READS IS OF BULK AT MOST 1048576: true; the input reads as it did. -/
def fnExactEvaluateUptoRow : OpenClaim := { program := "ytipoeghieeafjaa", sum := "841a870e1c01df3f0309d261e2fd602d5004cbcf5c9336d47f031d0910af1be5", func := "loop.example/accesspolicies/laws.FnExactEvaluate", spec := "fnExactEvaluate", unfollowed := true, recurses := true, loops := true, apart := false, narrowed := true }
def FnExactEvaluateUptoSaid : Prop := fnExactEvaluateUptoRow.holds Try.pinned (OpenSpec.upto fnExactEvaluateSpec)

/-- 'laws.FnExactHolds', WHERE WHAT IT READS IS OF BULK AT MOST 1048576: true; the input reads as it did. -/
def fnExactHoldsUptoRow : OpenClaim := { program := "ytipoeghieeafjaa", sum := "841a870e1c01df3f0309d261e2fd602d5004cbcf5c9336d47f031d0910af1be5", func := "loop.example/accesspolicies/laws.FnExactHolds", spec := "fnExactHolds", unfollowed := true, recurses := true, loops := true, apart := false, narrowed := true }
def FnExactHoldsUptoSaid : Prop := fnExactHoldsUptoRow.holds Try.pinned (OpenSpec.upto fnExactHoldsSpec)

/-- 'laws.FnExactAlike', WHERE WHAT IT READS IS OF BULK AT MOST 1048576: true; the input reads as it did. -/
def fnExactAlikeUptoRow : OpenClaim := { program := "ytipoeghieeafjaa", sum := "841a870e1c01df3f0309d261e2fd602d5004cbcf5c9336d47f031d0910af1be5", func := "loop.example/accesspolicies/laws.FnExactAlike", spec := "fnExactAlike", unfollowed := true, recurses := true, loops := true, apart := false, narrowed := true }
def FnExactAlikeUptoSaid : Prop := fnExactAlikeUptoRow.holds Try.pinned (OpenSpec.upto fnExactAlikeSpec)

/-- 'laws.FnExactApplies', WHERE WHAT IT READS IS OF BULK AT MOST 1048576: true; the input reads as it did. -/
def fnExactAppliesUptoRow : OpenClaim := { program := "ytipoeghieeafjaa", sum := "841a870e1c01df3f0309d261e2fd602d5004cbcf5c9336d47f031d0910af1be5", func := "loop.example/accesspolicies/laws.FnExactApplies", spec := "fnExactApplies", unfollowed := true, recurses := true, loops := true, apart := false, narrowed := true }
def FnExactAppliesUptoSaid : Prop := fnExactAppliesUptoRow.holds Try.pinned (OpenSpec.upto fnExactAppliesSpec)

end Rows
end Go.Proofs.Ytipoeghieeafjaa
