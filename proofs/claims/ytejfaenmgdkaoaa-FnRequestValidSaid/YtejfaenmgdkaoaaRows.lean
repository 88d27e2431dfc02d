/-
  NARROWER THAN 'FOR EVERY INPUT', by the rows' own cells (each row's printed sentence says how): FnExactThingsUsed: loops · FnExactPolicyValid: loops.
  DERIVED. THE GIVEN ROWS OF THIS SEAT. 8 by the template 'for every input the law returns true; each argument reads behind the call as it read before'; 0 by the template 'total and deterministic' (their statements: YtejfaenmgdkaoaaTotals.lean).
  GIVEN WITH THE SEED: the statements are not yours to turn. If you find one false, say at which input.
  Laid BY PROGRAM, IN A SANDBOX (cutbox-rows.mjs): the forced cells as the released guide's own fill.sh prints them over the translation 9a03810cf48c5066… (all of the seat's roots in one cut). By AI agents, Wed Nov 11 2026. No macro, syntax, notation, axiom, sorry.
-/
import Derived.Test.YtejfaenmgdkaoaaChecked
import GoSem.Claim
import GoSem.ClaimJoined
import GoSem.ClaimMapViews
import Derived.JoinedTies
import Derived.KernelRfl
namespace Go.Proofs.Ytejfaenmgdkaoaa
/- THE CELL 'sum', in the pinned program and in every row, IS THE sha256 OF THE DUMP (.gsa) THAT YtejfaenmgdkaoaaProg.lean LOADS. Nothing in Lean hashes anything: it is a label: what it is worth is what the hold of that sum in a sandbox is worth. -/
noncomputable def Try.pinned : Pinned := { name := "ytejfaenmgdkaoaa", sum := "9a03810cf48c50662af99d5032eab4741ff009e14bfc1ccba656d3a1eb4e7526", checked := Try.checked }
namespace Rows
def none {H : Type} : Left H := { results := [], args := [] }

/-- 'laws.FnSchemaValid': WHATEVER THE INPUT: true; the input reads as it did. -/
def fnSchemaValidSpec : ChangeSpec := { name := "fnSchemaValid", fn := fun _ => fun
  | [d] => { results := [.lit (.bool true)], args := [d] }
  | _ => none }
def fnSchemaValidRow : OpenClaim := { program := "ytejfaenmgdkaoaa", sum := "9a03810cf48c50662af99d5032eab4741ff009e14bfc1ccba656d3a1eb4e7526", func := "loop.example/accesspolicies/laws.FnSchemaValid", spec := "fnSchemaValid", apart := false }
def FnSchemaValidSaid : Prop := fnSchemaValidRow.holds Try.pinned (OpenSpec.ofChange fnSchemaValidSpec)

/-- ITS FALSE NEIGHBOUR: 'it returns false'. Refute it at one input. -/
def fnSchemaValidWrong : ChangeSpec := { name := "fnSchemaValid", fn := fun _ => fun
  | [d] => { results := [.lit (.bool false)], args := [d] }
  | _ => none }
def FnSchemaValidWrongFalsely : Prop := fnSchemaValidRow.holds Try.pinned (OpenSpec.ofChange fnSchemaValidWrong)

/-- 'laws.FnExactSchemaValid': WHATEVER THE INPUT: true; the input reads as it did. -/
def fnExactSchemaValidSpec : ChangeSpec := { name := "fnExactSchemaValid", fn := fun _ => fun
  | [d] => { results := [.lit (.bool true)], args := [d] }
  | _ => none }
def fnExactSchemaValidRow : OpenClaim := { program := "ytejfaenmgdkaoaa", sum := "9a03810cf48c50662af99d5032eab4741ff009e14bfc1ccba656d3a1eb4e7526", func := "loop.example/accesspolicies/laws.FnExactSchemaValid", spec := "fnExactSchemaValid", apart := false }
def FnExactSchemaValidSaid : Prop := fnExactSchemaValidRow.holds Try.pinned (OpenSpec.ofChange fnExactSchemaValidSpec)

/-- ITS FALSE NEIGHBOUR: 'it returns false'. Refute it at one input. -/
def fnExactSchemaValidWrong : ChangeSpec := { name := "fnExactSchemaValid", fn := fun _ => fun
  | [d] => { results := [.lit (.bool false)], args := [d] }
  | _ => none }
def FnExactSchemaValidWrongFalsely : Prop := fnExactSchemaValidRow.holds Try.pinned (OpenSpec.ofChange fnExactSchemaValidWrong)

/-- 'laws.FnWorldValid': WHATEVER THE INPUT: true; the input reads as it did. -/
def fnWorldValidSpec : ChangeSpec := { name := "fnWorldValid", fn := fun _ => fun
  | [d] => { results := [.lit (.bool true)], args := [d] }
  | _ => none }
def fnWorldValidRow : OpenClaim := { program := "ytejfaenmgdkaoaa", sum := "9a03810cf48c50662af99d5032eab4741ff009e14bfc1ccba656d3a1eb4e7526", func := "loop.example/accesspolicies/laws.FnWorldValid", spec := "fnWorldValid", apart := false }
def FnWorldValidSaid : Prop := fnWorldValidRow.holds Try.pinned (OpenSpec.ofChange fnWorldValidSpec)

/-- ITS FALSE NEIGHBOUR: 'it returns false'. Refute it at one input. -/
def fnWorldValidWrong : ChangeSpec := { name := "fnWorldValid", fn := fun _ => fun
  | [d] => { results := [.lit (.bool false)], args := [d] }
  | _ => none }
def FnWorldValidWrongFalsely : Prop := fnWorldValidRow.holds Try.pinned (OpenSpec.ofChange fnWorldValidWrong)

/-- 'laws.FnExactThingsUsed': WHATEVER THE INPUT: true; the input reads as it did. -/
def fnExactThingsUsedSpec : ChangeSpec := { name := "fnExactThingsUsed", fn := fun _ => fun
  | [d] => { results := [.lit (.bool true)], args := [d] }
  | _ => none }
def fnExactThingsUsedRow : OpenClaim := { program := "ytejfaenmgdkaoaa", sum := "9a03810cf48c50662af99d5032eab4741ff009e14bfc1ccba656d3a1eb4e7526", func := "loop.example/accesspolicies/laws.FnExactThingsUsed", spec := "fnExactThingsUsed", unfollowed := true, recurses := true, loops := true, apart := false }
def FnExactThingsUsedSaid : Prop := fnExactThingsUsedRow.holds Try.pinned (OpenSpec.ofChange fnExactThingsUsedSpec)

/-- ITS FALSE NEIGHBOUR: 'it returns false'. Refute it at one input. -/
def fnExactThingsUsedWrong : ChangeSpec := { name := "fnExactThingsUsed", fn := fun _ => fun
  | [d] => { results := [.lit (.bool false)], args := [d] }
  | _ => none }
def FnExactThingsUsedWrongFalsely : Prop := fnExactThingsUsedRow.holds Try.pinned (OpenSpec.ofChange fnExactThingsUsedWrong)

/-- 'laws.FnIsIn': WHATEVER THE INPUT: true; the input reads as it did. -/
def fnIsInSpec : ChangeSpec := { name := "fnIsIn", fn := fun _ => fun
  | [d] => { results := [.lit (.bool true)], args := [d] }
  | _ => none }
def fnIsInRow : OpenClaim := { program := "ytejfaenmgdkaoaa", sum := "9a03810cf48c50662af99d5032eab4741ff009e14bfc1ccba656d3a1eb4e7526", func := "loop.example/accesspolicies/laws.FnIsIn", spec := "fnIsIn", unfollowed := true, recurses := true, apart := false }
def FnIsInSaid : Prop := fnIsInRow.holds Try.pinned (OpenSpec.ofChange fnIsInSpec)

/-- ITS FALSE NEIGHBOUR: 'it returns false'. Refute it at one input. -/
def fnIsInWrong : ChangeSpec := { name := "fnIsIn", fn := fun _ => fun
  | [d] => { results := [.lit (.bool false)], args := [d] }
  | _ => none }
def FnIsInWrongFalsely : Prop := fnIsInRow.holds Try.pinned (OpenSpec.ofChange fnIsInWrong)

/-- 'laws.FnRequestValid': WHATEVER THE INPUT: true; the input reads as it did. -/
def fnRequestValidSpec : ChangeSpec := { name := "fnRequestValid", fn := fun _ => fun
  | [d] => { results := [.lit (.bool true)], args := [d] }
  | _ => none }
def fnRequestValidRow : OpenClaim := { program := "ytejfaenmgdkaoaa", sum := "9a03810cf48c50662af99d5032eab4741ff009e14bfc1ccba656d3a1eb4e7526", func := "loop.example/accesspolicies/laws.FnRequestValid", spec := "fnRequestValid", apart := false }
def FnRequestValidSaid : Prop := fnRequestValidRow.holds Try.pinned (OpenSpec.ofChange fnRequestValidSpec)

/-- ITS FALSE NEIGHBOUR: 'it returns false'. Refute it at one input. -/
def fnRequestValidWrong : ChangeSpec := { name := "fnRequestValid", fn := fun _ => fun
  | [d] => { results := [.lit (.bool false)], args := [d] }
  | _ => none }
def FnRequestValidWrongFalsely : Prop := fnRequestValidRow.holds Try.pinned (OpenSpec.ofChange fnRequestValidWrong)

/-- 'laws.FnExactPolicyValid': WHATEVER THE INPUT: true; the input reads as it did. -/
def fnExactPolicyValidSpec : ChangeSpec := { name := "fnExactPolicyValid", fn := fun _ => fun
  | [d] => { results := [.lit (.bool true)], args := [d] }
  | _ => none }
def fnExactPolicyValidRow : OpenClaim := { program := "ytejfaenmgdkaoaa", sum := "9a03810cf48c50662af99d5032eab4741ff009e14bfc1ccba656d3a1eb4e7526", func := "loop.example/accesspolicies/laws.FnExactPolicyValid", spec := "fnExactPolicyValid", recurses := true, loops := true, apart := false }
def FnExactPolicyValidSaid : Prop := fnExactPolicyValidRow.holds Try.pinned (OpenSpec.ofChange fnExactPolicyValidSpec)

/-- ITS FALSE NEIGHBOUR: 'it returns false'. Refute it at one input. -/
def fnExactPolicyValidWrong : ChangeSpec := { name := "fnExactPolicyValid", fn := fun _ => fun
  | [d] => { results := [.lit (.bool false)], args := [d] }
  | _ => none }
def FnExactPolicyValidWrongFalsely : Prop := fnExactPolicyValidRow.holds Try.pinned (OpenSpec.ofChange fnExactPolicyValidWrong)

/-- 'laws.FnExprSize': WHATEVER THE INPUT: true; the input reads as it did. -/
def fnExprSizeSpec : ChangeSpec := { name := "fnExprSize", fn := fun _ => fun
  | [d] => { results := [.lit (.bool true)], args := [d] }
  | _ => none }
def fnExprSizeRow : OpenClaim := { program := "ytejfaenmgdkaoaa", sum := "9a03810cf48c50662af99d5032eab4741ff009e14bfc1ccba656d3a1eb4e7526", func := "loop.example/accesspolicies/laws.FnExprSize", spec := "fnExprSize", recurses := true, apart := false }
def FnExprSizeSaid : Prop := fnExprSizeRow.holds Try.pinned (OpenSpec.ofChange fnExprSizeSpec)

/-- ITS FALSE NEIGHBOUR: 'it returns false'. Refute it at one input. -/
def fnExprSizeWrong : ChangeSpec := { name := "fnExprSize", fn := fun _ => fun
  | [d] => { results := [.lit (.bool false)], args := [d] }
  | _ => none }
def FnExprSizeWrongFalsely : Prop := fnExprSizeRow.holds Try.pinned (OpenSpec.ofChange fnExprSizeWrong)

/- THE SECOND FORM. 'bulk': how many values and letters a reading holds, each counted each time it is reached (what is shared counts as often as it is met; a slice's spare places count too). A statement '..UptoSaid' is the law's where the arguments, and the package variables that the reading takes, are together of bulk at most 1048576: NARROWER than '..Said'. Prove '..Said' where nothing that the law and all that it calls make is longer than what came in: it says more and counts as full. Else prove '..UptoSaid'. A law counts once. -/
mutual
def uptoBulk {H : Type} : DataW H → Nat
  | .lit (.string bytes) => bytes.length + 1
  | .lit _ => 1
  | .nil => 1
  | .ptr d => uptoBulk d + 1
  | .slice elems spare => uptoBulkAll elems + uptoBulkAll spare + 1
  | .agg parts => uptoBulkAll parts + 1
  | .iface _ d => uptoBulk d + 1
  | .map entries => uptoBulkEntries entries + 1
  | .held _ => 1
def uptoBulkAll {H : Type} : List (DataW H) → Nat
  | [] => 0
  | d :: r => uptoBulk d + uptoBulkAll r
def uptoBulkEntries {H : Type} : List (Lit × DataW H) → Nat
  | [] => 0
  | x :: r => uptoBulkEntry x + uptoBulkEntries r
def uptoBulkEntry {H : Type} : Lit × DataW H → Nat
  | (.string bytes, d) => bytes.length + uptoBulk d + 1
  | (_, d) => uptoBulk d + 1
 end
def uptoSmall : (H : Type) → List (DataW H) → Bool := fun _ ds => decide (uptoBulkAll ds ≤ 1048576)
def OpenSpec.upto (s : _root_.Go.ChangeSpec) : _root_.Go.OpenSpec := { _root_.Go.OpenSpec.ofChange s with cond := some uptoSmall }

/-- 'laws.FnSchemaValid', WHERE WHAT IT READS IS OF BULK AT MOST 1048576: true; the input reads as it did. -/
def fnSchemaValidUptoRow : OpenClaim := { program := "ytejfaenmgdkaoaa", sum := "9a03810cf48c50662af99d5032eab4741ff009e14bfc1ccba656d3a1eb4e7526", func := "loop.example/accesspolicies/laws.FnSchemaValid", spec := "fnSchemaValid", apart := false, narrowed := true }
def FnSchemaValidUptoSaid : Prop := fnSchemaValidUptoRow.holds Try.pinned (OpenSpec.upto fnSchemaValidSpec)

/-- 'laws.FnExactSchemaValid', WHERE WHAT IT READS IS OF BULK AT MOST 1048576: true; the input reads as it did. -/
def fnExactSchemaValidUptoRow : OpenClaim := { program := "ytejfaenmgdkaoaa", sum := "9a03810cf48c50662af99d5032eab4741ff009e14bfc1ccba656d3a1eb4e7526", func := "loop.example/accesspolicies/laws.FnExactSchemaValid", spec := "fnExactSchemaValid", apart := false, narrowed := true }
def FnExactSchemaValidUptoSaid : Prop := fnExactSchemaValidUptoRow.holds Try.pinned (OpenSpec.upto fnExactSchemaValidSpec)

/-- 'laws.FnWorldValid', WHERE WHAT IT READS IS OF BULK AT MOST 1048576: true; the input reads as it did. -/
def fnWorldValidUptoRow : OpenClaim := { program := "ytejfaenmgdkaoaa", sum := "9a03810cf48c50662af99d5032eab4741ff009e14bfc1ccba656d3a1eb4e7526", func := "loop.example/accesspolicies/laws.FnWorldValid", spec := "fnWorldValid", apart := false, narrowed := true }
def FnWorldValidUptoSaid : Prop := fnWorldValidUptoRow.holds Try.pinned (OpenSpec.upto fnWorldValidSpec)

/-- 'laws.FnExactThingsUsed', WHERE WHAT IT READS IS OF BULK AT MOST 1048576: true; the input reads as it did. -/
def fnExactThingsUsedUptoRow : OpenClaim := { program := "ytejfaenmgdkaoaa", sum := "9a03810cf48c50662af99d5032eab4741ff009e14bfc1ccba656d3a1eb4e7526", func := "loop.example/accesspolicies/laws.FnExactThingsUsed", spec := "fnExactThingsUsed", unfollowed := true, recurses := true, loops := true, apart := false, narrowed := true }
def FnExactThingsUsedUptoSaid : Prop := fnExactThingsUsedUptoRow.holds Try.pinned (OpenSpec.upto fnExactThingsUsedSpec)

/-- 'laws.FnIsIn', WHERE WHAT IT READS IS OF BULK AT MOST 1048576: true; the input reads as it did. -/
def fnIsInUptoRow : OpenClaim := { program := "ytejfaenmgdkaoaa", sum := "9a03810cf48c50662af99d5032eab4741ff009e14bfc1ccba656d3a1eb4e7526", func := "loop.example/accesspolicies/laws.FnIsIn", spec := "fnIsIn", unfollowed := true, recurses := true, apart := false, narrowed := true }
def FnIsInUptoSaid : Prop := fnIsInUptoRow.holds Try.pinned (OpenSpec.upto fnIsInSpec)

/-- 'laws.FnRequestValid', WHERE WHAT IT READS IS OF BULK AT MOST 1048576: true; the input reads as it did. -/
def fnRequestValidUptoRow : OpenClaim := { program := "ytejfaenmgdkaoaa", sum := "9a03810cf48c50662af99d5032eab4741ff009e14bfc1ccba656d3a1eb4e7526", func := "loop.example/accesspolicies/laws.FnRequestValid", spec := "fnRequestValid", apart := false, narrowed := true }
def FnRequestValidUptoSaid : Prop := fnRequestValidUptoRow.holds Try.pinned (OpenSpec.upto fnRequestValidSpec)

/-- 'laws.FnExactPolicyValid', WHERE WHAT IT READS IS OF BULK AT MOST 1048576: true; the input reads as it did. -/
def fnExactPolicyValidUptoRow : OpenClaim := { program := "ytejfaenmgdkaoaa", sum := "9a03810cf48c50662af99d5032eab4741ff009e14bfc1ccba656d3a1eb4e7526", func := "loop.example/accesspolicies/laws.FnExactPolicyValid", spec := "fnExactPolicyValid", recurses := true, loops := true, apart := false, narrowed := true }
def FnExactPolicyValidUptoSaid : Prop := fnExactPolicyValidUptoRow.holds Try.pinned (OpenSpec.upto fnExactPolicyValidSpec)

/-- 'laws.FnExprSize', WHERE WHAT IT READS IS OF BULK AT MOST 1048576: true; the input reads as it did. -/
def fnExprSizeUptoRow : OpenClaim := { program := "ytejfaenmgdkaoaa", sum := "9a03810cf48c50662af99d5032eab4741ff009e14bfc1ccba656d3a1eb4e7526", func := "loop.example/accesspolicies/laws.FnExprSize", spec := "fnExprSize", recurses := true, apart := false, narrowed := true }
def FnExprSizeUptoSaid : Prop := fnExprSizeUptoRow.holds Try.pinned (OpenSpec.upto fnExprSizeSpec)

end Rows
end Go.Proofs.Ytejfaenmgdkaoaa
