/-
  NARROWER THAN 'FOR EVERY INPUT', by the rows' own cells (each row's printed sentence says how): FnExactSameExpr: loops · FnExactExprValid: loops · FnExactExprSize: loops.
  DERIVED. THE GIVEN ROWS OF THIS SEAT. 12 by the template 'for every input the law returns true; each argument reads behind the call as it read before'; 0 by the template 'total and deterministic' (their statements: YtefgbocbhohkeaaTotals.lean).
  GIVEN WITH THE SEED: the statements are not yours to turn. If you find one false, say at which input.
  Laid BY PROGRAM, IN A SANDBOX (cutbox-rows.mjs): the forced cells as the released guide's own fill.sh prints them over the translation 5bfdeb7a7d1217e2… (all of the seat's roots in one cut). By AI agents, Wed Nov 11 2026. No macro, syntax, notation, axiom, sorry.
-/
import Derived.Test.YtefgbocbhohkeaaChecked
import GoSem.Claim
import GoSem.ClaimJoined
import GoSem.ClaimMapViews
import Derived.JoinedTies
import Derived.KernelRfl
namespace Go.Proofs.Ytefgbocbhohkeaa
/- THE CELL 'sum', in the pinned program and in every row, IS THE sha256 OF THE DUMP (.gsa) THAT YtefgbocbhohkeaaProg.lean LOADS. Nothing in Lean hashes anything: it is a label: what it is worth is what the hold of that sum in a sandbox is worth. -/
noncomputable def Try.pinned : Pinned := { name := "ytefgbocbhohkeaa", sum := "5bfdeb7a7d1217e2ea1c3cbcc506109862c2de9a5c4edcd08b7029375203e31a", checked := Try.checked }
namespace Rows
def none {H : Type} : Left H := { results := [], args := [] }

/-- 'laws.FnExactConstants': WHATEVER THE INPUT: true; the input reads as it did. -/
def fnExactConstantsSpec : ChangeSpec := { name := "fnExactConstants", fn := fun _ => fun
  | [] => { results := [.lit (.bool true)], args := [] }
  | _ => none }
def fnExactConstantsRow : OpenClaim := { program := "ytefgbocbhohkeaa", sum := "5bfdeb7a7d1217e2ea1c3cbcc506109862c2de9a5c4edcd08b7029375203e31a", func := "loop.example/accesspolicies/laws.FnExactConstants", spec := "fnExactConstants", apart := false }
def FnExactConstantsSaid : Prop := fnExactConstantsRow.holds Try.pinned (OpenSpec.ofChange fnExactConstantsSpec)

/-- ITS FALSE NEIGHBOUR: 'it returns false'. Refute it at one input. -/
def fnExactConstantsWrong : ChangeSpec := { name := "fnExactConstants", fn := fun _ => fun
  | [] => { results := [.lit (.bool false)], args := [] }
  | _ => none }
def FnExactConstantsWrongFalsely : Prop := fnExactConstantsRow.holds Try.pinned (OpenSpec.ofChange fnExactConstantsWrong)

/-- 'laws.FnExactNameValid': WHATEVER THE INPUT: true; the input reads as it did. -/
def fnExactNameValidSpec : ChangeSpec := { name := "fnExactNameValid", fn := fun _ => fun
  | [d] => { results := [.lit (.bool true)], args := [d] }
  | _ => none }
def fnExactNameValidRow : OpenClaim := { program := "ytefgbocbhohkeaa", sum := "5bfdeb7a7d1217e2ea1c3cbcc506109862c2de9a5c4edcd08b7029375203e31a", func := "loop.example/accesspolicies/laws.FnExactNameValid", spec := "fnExactNameValid", apart := false }
def FnExactNameValidSaid : Prop := fnExactNameValidRow.holds Try.pinned (OpenSpec.ofChange fnExactNameValidSpec)

/-- ITS FALSE NEIGHBOUR: 'it returns false'. Refute it at one input. -/
def fnExactNameValidWrong : ChangeSpec := { name := "fnExactNameValid", fn := fun _ => fun
  | [d] => { results := [.lit (.bool false)], args := [d] }
  | _ => none }
def FnExactNameValidWrongFalsely : Prop := fnExactNameValidRow.holds Try.pinned (OpenSpec.ofChange fnExactNameValidWrong)

/-- 'laws.FnExactTruthOf': WHATEVER THE INPUT: true; the input reads as it did. -/
def fnExactTruthOfSpec : ChangeSpec := { name := "fnExactTruthOf", fn := fun _ => fun
  | [d] => { results := [.lit (.bool true)], args := [d] }
  | _ => none }
def fnExactTruthOfRow : OpenClaim := { program := "ytefgbocbhohkeaa", sum := "5bfdeb7a7d1217e2ea1c3cbcc506109862c2de9a5c4edcd08b7029375203e31a", func := "loop.example/accesspolicies/laws.FnExactTruthOf", spec := "fnExactTruthOf", apart := false }
def FnExactTruthOfSaid : Prop := fnExactTruthOfRow.holds Try.pinned (OpenSpec.ofChange fnExactTruthOfSpec)

/-- ITS FALSE NEIGHBOUR: 'it returns false'. Refute it at one input. -/
def fnExactTruthOfWrong : ChangeSpec := { name := "fnExactTruthOf", fn := fun _ => fun
  | [d] => { results := [.lit (.bool false)], args := [d] }
  | _ => none }
def FnExactTruthOfWrongFalsely : Prop := fnExactTruthOfRow.holds Try.pinned (OpenSpec.ofChange fnExactTruthOfWrong)

/-- 'laws.FnNameValid': WHATEVER THE INPUT: true; the input reads as it did. -/
def fnNameValidSpec : ChangeSpec := { name := "fnNameValid", fn := fun _ => fun
  | [d] => { results := [.lit (.bool true)], args := [d] }
  | _ => none }
def fnNameValidRow : OpenClaim := { program := "ytefgbocbhohkeaa", sum := "5bfdeb7a7d1217e2ea1c3cbcc506109862c2de9a5c4edcd08b7029375203e31a", func := "loop.example/accesspolicies/laws.FnNameValid", spec := "fnNameValid", apart := false }
def FnNameValidSaid : Prop := fnNameValidRow.holds Try.pinned (OpenSpec.ofChange fnNameValidSpec)

/-- ITS FALSE NEIGHBOUR: 'it returns false'. Refute it at one input. -/
def fnNameValidWrong : ChangeSpec := { name := "fnNameValid", fn := fun _ => fun
  | [d] => { results := [.lit (.bool false)], args := [d] }
  | _ => none }
def FnNameValidWrongFalsely : Prop := fnNameValidRow.holds Try.pinned (OpenSpec.ofChange fnNameValidWrong)

/-- 'laws.FnTruthOf': WHATEVER THE INPUT: true; the input reads as it did. -/
def fnTruthOfSpec : ChangeSpec := { name := "fnTruthOf", fn := fun _ => fun
  | [d] => { results := [.lit (.bool true)], args := [d] }
  | _ => none }
def fnTruthOfRow : OpenClaim := { program := "ytefgbocbhohkeaa", sum := "5bfdeb7a7d1217e2ea1c3cbcc506109862c2de9a5c4edcd08b7029375203e31a", func := "loop.example/accesspolicies/laws.FnTruthOf", spec := "fnTruthOf", apart := false }
def FnTruthOfSaid : Prop := fnTruthOfRow.holds Try.pinned (OpenSpec.ofChange fnTruthOfSpec)

/-- ITS FALSE NEIGHBOUR: 'it returns false'. Refute it at one input. -/
def fnTruthOfWrong : ChangeSpec := { name := "fnTruthOf", fn := fun _ => fun
  | [d] => { results := [.lit (.bool false)], args := [d] }
  | _ => none }
def FnTruthOfWrongFalsely : Prop := fnTruthOfRow.holds Try.pinned (OpenSpec.ofChange fnTruthOfWrong)

/-- 'laws.FnValueValid': WHATEVER THE INPUT: true; the input reads as it did. -/
def fnValueValidSpec : ChangeSpec := { name := "fnValueValid", fn := fun _ => fun
  | [d] => { results := [.lit (.bool true)], args := [d] }
  | _ => none }
def fnValueValidRow : OpenClaim := { program := "ytefgbocbhohkeaa", sum := "5bfdeb7a7d1217e2ea1c3cbcc506109862c2de9a5c4edcd08b7029375203e31a", func := "loop.example/accesspolicies/laws.FnValueValid", spec := "fnValueValid", apart := false }
def FnValueValidSaid : Prop := fnValueValidRow.holds Try.pinned (OpenSpec.ofChange fnValueValidSpec)

/-- ITS FALSE NEIGHBOUR: 'it returns false'. Refute it at one input. -/
def fnValueValidWrong : ChangeSpec := { name := "fnValueValid", fn := fun _ => fun
  | [d] => { results := [.lit (.bool false)], args := [d] }
  | _ => none }
def FnValueValidWrongFalsely : Prop := fnValueValidRow.holds Try.pinned (OpenSpec.ofChange fnValueValidWrong)

/-- 'laws.FnFieldOf': WHATEVER THE INPUT: true; the input reads as it did. -/
def fnFieldOfSpec : ChangeSpec := { name := "fnFieldOf", fn := fun _ => fun
  | [d] => { results := [.lit (.bool true)], args := [d] }
  | _ => none }
def fnFieldOfRow : OpenClaim := { program := "ytefgbocbhohkeaa", sum := "5bfdeb7a7d1217e2ea1c3cbcc506109862c2de9a5c4edcd08b7029375203e31a", func := "loop.example/accesspolicies/laws.FnFieldOf", spec := "fnFieldOf", apart := false }
def FnFieldOfSaid : Prop := fnFieldOfRow.holds Try.pinned (OpenSpec.ofChange fnFieldOfSpec)

/-- ITS FALSE NEIGHBOUR: 'it returns false'. Refute it at one input. -/
def fnFieldOfWrong : ChangeSpec := { name := "fnFieldOf", fn := fun _ => fun
  | [d] => { results := [.lit (.bool false)], args := [d] }
  | _ => none }
def FnFieldOfWrongFalsely : Prop := fnFieldOfRow.holds Try.pinned (OpenSpec.ofChange fnFieldOfWrong)

/-- 'laws.FnExactFieldOf': WHATEVER THE INPUT: true; the input reads as it did. -/
def fnExactFieldOfSpec : ChangeSpec := { name := "fnExactFieldOf", fn := fun _ => fun
  | [d1, d2] => { results := [.lit (.bool true)], args := [d1, d2] }
  | _ => none }
def fnExactFieldOfRow : OpenClaim := { program := "ytefgbocbhohkeaa", sum := "5bfdeb7a7d1217e2ea1c3cbcc506109862c2de9a5c4edcd08b7029375203e31a", func := "loop.example/accesspolicies/laws.FnExactFieldOf", spec := "fnExactFieldOf", apart := false }
def FnExactFieldOfSaid : Prop := fnExactFieldOfRow.holds Try.pinned (OpenSpec.ofChange fnExactFieldOfSpec)

/-- ITS FALSE NEIGHBOUR: 'it returns false'. Refute it at one input. -/
def fnExactFieldOfWrong : ChangeSpec := { name := "fnExactFieldOf", fn := fun _ => fun
  | [d1, d2] => { results := [.lit (.bool false)], args := [d1, d2] }
  | _ => none }
def FnExactFieldOfWrongFalsely : Prop := fnExactFieldOfRow.holds Try.pinned (OpenSpec.ofChange fnExactFieldOfWrong)

/-- 'laws.FnExactSameExpr': WHATEVER THE INPUT: true; the input reads as it did. -/
def fnExactSameExprSpec : ChangeSpec := { name := "fnExactSameExpr", fn := fun _ => fun
  | [d1, d2] => { results := [.lit (.bool true)], args := [d1, d2] }
  | _ => none }
def fnExactSameExprRow : OpenClaim := { program := "ytefgbocbhohkeaa", sum := "5bfdeb7a7d1217e2ea1c3cbcc506109862c2de9a5c4edcd08b7029375203e31a", func := "loop.example/accesspolicies/laws.FnExactSameExpr", spec := "fnExactSameExpr", recurses := true, loops := true, apart := false }
def FnExactSameExprSaid : Prop := fnExactSameExprRow.holds Try.pinned (OpenSpec.ofChange fnExactSameExprSpec)

/-- ITS FALSE NEIGHBOUR: 'it returns false'. Refute it at one input. -/
def fnExactSameExprWrong : ChangeSpec := { name := "fnExactSameExpr", fn := fun _ => fun
  | [d1, d2] => { results := [.lit (.bool false)], args := [d1, d2] }
  | _ => none }
def FnExactSameExprWrongFalsely : Prop := fnExactSameExprRow.holds Try.pinned (OpenSpec.ofChange fnExactSameExprWrong)

/-- 'laws.FnExactExprValid': WHATEVER THE INPUT: true; the input reads as it did. -/
def fnExactExprValidSpec : ChangeSpec := { name := "fnExactExprValid", fn := fun _ => fun
  | [d] => { results := [.lit (.bool true)], args := [d] }
  | _ => none }
def fnExactExprValidRow : OpenClaim := { program := "ytefgbocbhohkeaa", sum := "5bfdeb7a7d1217e2ea1c3cbcc506109862c2de9a5c4edcd08b7029375203e31a", func := "loop.example/accesspolicies/laws.FnExactExprValid", spec := "fnExactExprValid", recurses := true, loops := true, apart := false }
def FnExactExprValidSaid : Prop := fnExactExprValidRow.holds Try.pinned (OpenSpec.ofChange fnExactExprValidSpec)

/-- ITS FALSE NEIGHBOUR: 'it returns false'. Refute it at one input. -/
def fnExactExprValidWrong : ChangeSpec := { name := "fnExactExprValid", fn := fun _ => fun
  | [d] => { results := [.lit (.bool false)], args := [d] }
  | _ => none }
def FnExactExprValidWrongFalsely : Prop := fnExactExprValidRow.holds Try.pinned (OpenSpec.ofChange fnExactExprValidWrong)

/-- 'laws.FnExactExprSize': WHATEVER THE INPUT: true; the input reads as it did. -/
def fnExactExprSizeSpec : ChangeSpec := { name := "fnExactExprSize", fn := fun _ => fun
  | [d] => { results := [.lit (.bool true)], args := [d] }
  | _ => none }
def fnExactExprSizeRow : OpenClaim := { program := "ytefgbocbhohkeaa", sum := "5bfdeb7a7d1217e2ea1c3cbcc506109862c2de9a5c4edcd08b7029375203e31a", func := "loop.example/accesspolicies/laws.FnExactExprSize", spec := "fnExactExprSize", recurses := true, loops := true, apart := false }
def FnExactExprSizeSaid : Prop := fnExactExprSizeRow.holds Try.pinned (OpenSpec.ofChange fnExactExprSizeSpec)

/-- ITS FALSE NEIGHBOUR: 'it returns false'. Refute it at one input. -/
def fnExactExprSizeWrong : ChangeSpec := { name := "fnExactExprSize", fn := fun _ => fun
  | [d] => { results := [.lit (.bool false)], args := [d] }
  | _ => none }
def FnExactExprSizeWrongFalsely : Prop := fnExactExprSizeRow.holds Try.pinned (OpenSpec.ofChange fnExactExprSizeWrong)

/-- 'laws.FnExprValid': WHATEVER THE INPUT: true; the input reads as it did. -/
def fnExprValidSpec : ChangeSpec := { name := "fnExprValid", fn := fun _ => fun
  | [d] => { results := [.lit (.bool true)], args := [d] }
  | _ => none }
def fnExprValidRow : OpenClaim := { program := "ytefgbocbhohkeaa", sum := "5bfdeb7a7d1217e2ea1c3cbcc506109862c2de9a5c4edcd08b7029375203e31a", func := "loop.example/accesspolicies/laws.FnExprValid", spec := "fnExprValid", recurses := true, apart := false }
def FnExprValidSaid : Prop := fnExprValidRow.holds Try.pinned (OpenSpec.ofChange fnExprValidSpec)

/-- ITS FALSE NEIGHBOUR: 'it returns false'. Refute it at one input. -/
def fnExprValidWrong : ChangeSpec := { name := "fnExprValid", fn := fun _ => fun
  | [d] => { results := [.lit (.bool false)], args := [d] }
  | _ => none }
def FnExprValidWrongFalsely : Prop := fnExprValidRow.holds Try.pinned (OpenSpec.ofChange fnExprValidWrong)

/- THE SECOND FORM. 'bulk': how many values and letters a reading holds, each counted each time it is reached (what is shared counts as often as it is met; a slice's spare places count too). A statement '..UptoSaid' is the law's where the arguments, and the package variables that the reading takes, are together of bulk at most 1048576: NARROWER than '..Said'. Prove '..Said' where nothing that the law and all that it calls make is longer than what came in: it says more and counts as full. Else prove '..UptoSaid'. A law counts once. -/
mutual
def uptoBulk {H : Type} : DataW H → Nat
  | .lit (.string bytes) => bytes.length + 1
  | .lit _ => 1
  | .nil => 1
  | .ptr d => uptoBulk d + 1
  | .slice elems spare => uptoBulkAll elems + uptoBulkAll spare + 1
  | .agg parts => uptoBulkAll parts + 1
  | .iface _ d => uptoBulk d + 1
  | .map entries => uptoBulkEntries entries + 1
  | .held _ => 1
def uptoBulkAll {H : Type} : List (DataW H) → Nat
  | [] => 0
  | d :: r => uptoBulk d + uptoBulkAll r
def uptoBulkEntries {H : Type} : List (Lit × DataW H) → Nat
  | [] => 0
  | x :: r => uptoBulkEntry x + uptoBulkEntries r
def uptoBulkEntry {H : Type} : Lit × DataW H → Nat
  | (.string bytes, d) => bytes.length + uptoBulk d + 1
  | (_, d) => uptoBulk d + 1
 end
def uptoSmall : (H : Type) → List (DataW H) → Bool := fun _ ds => decide (uptoBulkAll ds ≤ 1048576)
def OpenSpec.upto (s : _root_.Go.ChangeSpec) : _root_.Go.OpenSpec := { _root_.Go.OpenSpec.ofChange s with cond := some uptoSmall }

/-- 'laws.FnExactConstants', WHERE WHAT IT READS IS OF BULK AT MOST 1048576: true; the input reads as it did. -/
def fnExactConstantsUptoRow : OpenClaim := { program := "ytefgbocbhohkeaa", sum := "5bfdeb7a7d1217e2ea1c3cbcc506109862c2de9a5c4edcd08b7029375203e31a", func := "loop.example/accesspolicies/laws.FnExactConstants", spec := "fnExactConstants", apart := false, narrowed := true }
def FnExactConstantsUptoSaid : Prop := fnExactConstantsUptoRow.holds Try.pinned (OpenSpec.upto fnExactConstantsSpec)

/-- 'laws.FnExactNameValid', WHERE WHAT IT READS IS OF BULK AT MOST 1048576: true; the input reads as it did. -/
def fnExactNameValidUptoRow : OpenClaim := { program := "ytefgbocbhohkeaa", sum := "5bfdeb7a7d1217e2ea1c3cbcc506109862c2de9a5c4edcd08b7029375203e31a", func := "loop.example/accesspolicies/laws.FnExactNameValid", spec := "fnExactNameValid", apart := false, narrowed := true }
def FnExactNameValidUptoSaid : Prop := fnExactNameValidUptoRow.holds Try.pinned (OpenSpec.upto fnExactNameValidSpec)

/-- 'laws.FnExactTruthOf', WHERE WHAT IT READS IS OF BULK AT MOST 1048576: true; the input reads as it did. -/
def fnExactTruthOfUptoRow : OpenClaim := { program := "ytefgbocbhohkeaa", sum := "5bfdeb7a7d1217e2ea1c3cbcc506109862c2de9a5c4edcd08b7029375203e31a", func := "loop.example/accesspolicies/laws.FnExactTruthOf", spec := "fnExactTruthOf", apart := false, narrowed := true }
def FnExactTruthOfUptoSaid : Prop := fnExactTruthOfUptoRow.holds Try.pinned (OpenSpec.upto fnExactTruthOfSpec)

/-- 'laws.FnNameValid', WHERE WHAT IT READS IS OF BULK AT MOST 1048576: true; the input reads as it did. -/
def fnNameValidUptoRow : OpenClaim := { program := "ytefgbocbhohkeaa", sum := "5bfdeb7a7d1217e2ea1c3cbcc506109862c2de9a5c4edcd08b7029375203e31a", func := "loop.example/accesspolicies/laws.FnNameValid", spec := "fnNameValid", apart := false, narrowed := true }
def FnNameValidUptoSaid : Prop := fnNameValidUptoRow.holds Try.pinned (OpenSpec.upto fnNameValidSpec)

/-- 'laws.FnTruthOf', WHERE WHAT IT READS IS OF BULK AT MOST 1048576: true; the input reads as it did. -/
def fnTruthOfUptoRow : OpenClaim := { program := "ytefgbocbhohkeaa", sum := "5bfdeb7a7d1217e2ea1c3cbcc506109862c2de9a5c4edcd08b7029375203e31a", func := "loop.example/accesspolicies/laws.FnTruthOf", spec := "fnTruthOf", apart := false, narrowed := true }
def FnTruthOfUptoSaid : Prop := fnTruthOfUptoRow.holds Try.pinned (OpenSpec.upto fnTruthOfSpec)

/-- 'laws.FnValueValid', WHERE WHAT IT READS IS OF BULK AT MOST 1048576: true; the input reads as it did. -/
def fnValueValidUptoRow : OpenClaim := { program := "ytefgbocbhohkeaa", sum := "5bfdeb7a7d1217e2ea1c3cbcc506109862c2de9a5c4edcd08b7029375203e31a", func := "loop.example/accesspolicies/laws.FnValueValid", spec := "fnValueValid", apart := false, narrowed := true }
def FnValueValidUptoSaid : Prop := fnValueValidUptoRow.holds Try.pinned (OpenSpec.upto fnValueValidSpec)

/-- 'laws.FnFieldOf', WHERE WHAT IT READS IS OF BULK AT MOST 1048576: true; the input reads as it did. -/
def fnFieldOfUptoRow : OpenClaim := { program := "ytefgbocbhohkeaa", sum := "5bfdeb7a7d1217e2ea1c3cbcc506109862c2de9a5c4edcd08b7029375203e31a", func := "loop.example/accesspolicies/laws.FnFieldOf", spec := "fnFieldOf", apart := false, narrowed := true }
def FnFieldOfUptoSaid : Prop := fnFieldOfUptoRow.holds Try.pinned (OpenSpec.upto fnFieldOfSpec)

/-- 'laws.FnExactFieldOf', WHERE WHAT IT READS IS OF BULK AT MOST 1048576: true; the input reads as it did. -/
def fnExactFieldOfUptoRow : OpenClaim := { program := "ytefgbocbhohkeaa", sum := "5bfdeb7a7d1217e2ea1c3cbcc506109862c2de9a5c4edcd08b7029375203e31a", func := "loop.example/accesspolicies/laws.FnExactFieldOf", spec := "fnExactFieldOf", apart := false, narrowed := true }
def FnExactFieldOfUptoSaid : Prop := fnExactFieldOfUptoRow.holds Try.pinned (OpenSpec.upto fnExactFieldOfSpec)

/-- 'laws.FnExactSameExpr', WHERE WHAT IT READS IS OF BULK AT MOST 1048576: true; the input reads as it did. -/
def fnExactSameExprUptoRow : OpenClaim := { program := "ytefgbocbhohkeaa", sum := "5bfdeb7a7d1217e2ea1c3cbcc506109862c2de9a5c4edcd08b7029375203e31a", func := "loop.example/accesspolicies/laws.FnExactSameExpr", spec := "fnExactSameExpr", recurses := true, loops := true, apart := false, narrowed := true }
def FnExactSameExprUptoSaid : Prop := fnExactSameExprUptoRow.holds Try.pinned (OpenSpec.upto fnExactSameExprSpec)

/-- 'laws.FnExactExprValid', WHERE WHAT IT READS IS OF BULK AT MOST 1048576: true; the input reads as it did. -/
def fnExactExprValidUptoRow : OpenClaim := { program := "ytefgbocbhohkeaa", sum := "5bfdeb7a7d1217e2ea1c3cbcc506109862c2de9a5c4edcd08b7029375203e31a", func := "loop.example/accesspolicies/laws.FnExactExprValid", spec := "fnExactExprValid", recurses := true, loops := true, apart := false, narrowed := true }
def FnExactExprValidUptoSaid : Prop := fnExactExprValidUptoRow.holds Try.pinned (OpenSpec.upto fnExactExprValidSpec)

/-- 'laws.FnExactExprSize', WHERE WHAT IT READS IS OF BULK AT MOST 1048576: true; the input reads as it did. -/
def fnExactExprSizeUptoRow : OpenClaim := { program := "ytefgbocbhohkeaa", sum := "5bfdeb7a7d1217e2ea1c3cbcc506109862c2de9a5c4edcd08b7029375203e31a", func := "loop.example/accesspolicies/laws.FnExactExprSize", spec := "fnExactExprSize", recurses := true, loops := true, apart := false, narrowed := true }
def FnExactExprSizeUptoSaid : Prop := fnExactExprSizeUptoRow.holds Try.pinned (OpenSpec.upto fnExactExprSizeSpec)

/-- 'laws.FnExprValid', WHERE WHAT IT READS IS OF BULK AT MOST 1048576: true; the input reads as it did. -/
def fnExprValidUptoRow : OpenClaim := { program := "ytefgbocbhohkeaa", sum := "5bfdeb7a7d1217e2ea1c3cbcc506109862c2de9a5c4edcd08b7029375203e31a", func := "loop.example/accesspolicies/laws.FnExprValid", spec := "fnExprValid", recurses := true, apart := false, narrowed := true }
def FnExprValidUptoSaid : Prop := fnExprValidUptoRow.holds Try.pinned (OpenSpec.upto fnExprValidSpec)

end Rows
end Go.Proofs.Ytefgbocbhohkeaa
