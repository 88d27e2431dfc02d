/-
  No cell of these rows narrows 'for every input' (looked for: loops, veiled, ifaces, maps, wideKeys, modest, calm, conditions, laid).
  DERIVED. THE GIVEN ROWS OF THIS SEAT. 3 by the template 'for every input the law returns true; each argument reads behind the call as it read before'; 0 by the template 'total and deterministic' (their statements: YtjpeciodihnolaaTotals.lean).
  GIVEN WITH THE SEED: the statements are not yours to turn. If you find one false, say at which input.
  Laid BY PROGRAM, IN A SANDBOX (cutbox-rows.mjs): the forced cells as the released guide's own fill.sh prints them over the translation 7f05bdc5c1db1e46… (all of the seat's roots in one cut). By AI agents, Wed Nov 11 2026. No macro, syntax, notation, axiom, sorry.
-/
import Derived.Test.YtjpeciodihnolaaChecked
import GoSem.Claim
import GoSem.ClaimJoined
import GoSem.ClaimMapViews
import Derived.JoinedTies
import Derived.KernelRfl
namespace Go.Proofs.Ytjpeciodihnolaa
/- THE CELL 'sum', in the pinned program and in every row, IS THE sha256 OF THE DUMP (.gsa) THAT YtjpeciodihnolaaProg.lean LOADS. Nothing in Lean hashes anything: it is a label: what it is worth is what the hold of that sum in a sandbox is worth. -/
noncomputable def Try.pinned : Pinned := { name := "ytjpeciodihnolaa", sum := "7f05bdc5c1db1e463f5147fb53ec9832a232a4dc63a9a2d0a1c63b5c1fed1186", checked := Try.checked }
namespace Rows
def none {H : Type} : Left H := { results := [], args := [] }

/-- 'laws.FnThingsUsed': WHATEVER THE INPUT: true; the input reads as it did. -/
def fnThingsUsedSpec : ChangeSpec := { name := "fnThingsUsed", fn := fun _ => fun
  | [d] => { results := [.lit (.bool true)], args := [d] }
  | _ => none }
def fnThingsUsedRow : OpenClaim := { program := "ytjpeciodihnolaa", sum := "7f05bdc5c1db1e463f5147fb53ec9832a232a4dc63a9a2d0a1c63b5c1fed1186", func := "loop.example/accesspolicies/laws.FnThingsUsed", spec := "fnThingsUsed", unfollowed := true, recurses := true, apart := false }
def FnThingsUsedSaid : Prop := fnThingsUsedRow.holds Try.pinned (OpenSpec.ofChange fnThingsUsedSpec)

/-- ITS FALSE NEIGHBOUR: 'it returns false'. Refute it at one input. -/
def fnThingsUsedWrong : ChangeSpec := { name := "fnThingsUsed", fn := fun _ => fun
  | [d] => { results := [.lit (.bool false)], args := [d] }
  | _ => none }
def FnThingsUsedWrongFalsely : Prop := fnThingsUsedRow.holds Try.pinned (OpenSpec.ofChange fnThingsUsedWrong)

/-- 'laws.FnKindOf': WHATEVER THE INPUT: true; the input reads as it did. -/
def fnKindOfSpec : ChangeSpec := { name := "fnKindOf", fn := fun _ => fun
  | [d] => { results := [.lit (.bool true)], args := [d] }
  | _ => none }
def fnKindOfRow : OpenClaim := { program := "ytjpeciodihnolaa", sum := "7f05bdc5c1db1e463f5147fb53ec9832a232a4dc63a9a2d0a1c63b5c1fed1186", func := "loop.example/accesspolicies/laws.FnKindOf", spec := "fnKindOf", unfollowed := true, recurses := true, apart := false }
def FnKindOfSaid : Prop := fnKindOfRow.holds Try.pinned (OpenSpec.ofChange fnKindOfSpec)

/-- ITS FALSE NEIGHBOUR: 'it returns false'. Refute it at one input. -/
def fnKindOfWrong : ChangeSpec := { name := "fnKindOf", fn := fun _ => fun
  | [d] => { results := [.lit (.bool false)], args := [d] }
  | _ => none }
def FnKindOfWrongFalsely : Prop := fnKindOfRow.holds Try.pinned (OpenSpec.ofChange fnKindOfWrong)

/-- 'laws.FnSimplerExpr': WHATEVER THE INPUT: true; the input reads as it did. -/
def fnSimplerExprSpec : ChangeSpec := { name := "fnSimplerExpr", fn := fun _ => fun
  | [d1, d2] => { results := [.lit (.bool true)], args := [d1, d2] }
  | _ => none }
def fnSimplerExprRow : OpenClaim := { program := "ytjpeciodihnolaa", sum := "7f05bdc5c1db1e463f5147fb53ec9832a232a4dc63a9a2d0a1c63b5c1fed1186", func := "loop.example/accesspolicies/laws.FnSimplerExpr", spec := "fnSimplerExpr", unfollowed := true, recurses := true, apart := false }
def FnSimplerExprSaid : Prop := fnSimplerExprRow.holds Try.pinned (OpenSpec.ofChange fnSimplerExprSpec)

/-- ITS FALSE NEIGHBOUR: 'it returns false'. Refute it at one input. -/
def fnSimplerExprWrong : ChangeSpec := { name := "fnSimplerExpr", fn := fun _ => fun
  | [d1, d2] => { results := [.lit (.bool false)], args := [d1, d2] }
  | _ => none }
def FnSimplerExprWrongFalsely : Prop := fnSimplerExprRow.holds Try.pinned (OpenSpec.ofChange fnSimplerExprWrong)

/- THE SECOND FORM. 'bulk': how many values and letters a reading holds, each counted each time it is reached (what is shared counts as often as it is met; a slice's spare places count too). A statement '..UptoSaid' is the law's where the arguments, and the package variables that the reading takes, are together of bulk at most 1048576: NARROWER than '..Said'. Prove '..Said' where nothing that the law and all that it calls make is longer than what came in: it says more and counts as full. Else prove '..UptoSaid'. A law counts once. -/
mutual
def uptoBulk {H : Type} : DataW H → Nat
  | .lit (.string bytes) => bytes.length + 1
  | .lit _ => 1
  | .nil => 1
  | .ptr d => uptoBulk d + 1
  | .slice elems spare => uptoBulkAll elems + uptoBulkAll spare + 1
  | .agg parts => uptoBulkAll parts + 1
  | .iface _ d => uptoBulk d + 1
  | .map entries => uptoBulkEntries entries + 1
  | .held _ => 1
def uptoBulkAll {H : Type} : List (DataW H) → Nat
  | [] => 0
  | d :: r => uptoBulk d + uptoBulkAll r
def uptoBulkEntries {H : Type} : List (Lit × DataW H) → Nat
  | [] => 0
  | x :: r => uptoBulkEntry x + uptoBulkEntries r
def uptoBulkEntry {H : Type} : Lit × DataW H → Nat
  | (.string bytes, d) => bytes.length + uptoBulk d + 1
  | (_, d) => uptoBulk d + 1
 end
def uptoSmall : (H : Type) → List (DataW H) → Bool := fun _ ds => decide (uptoBulkAll ds ≤ 1048576)
def OpenSpec.upto (s : _root_.Go.ChangeSpec) : _root_.Go.OpenSpec := { _root_.Go.OpenSpec.ofChange s with cond := some uptoSmall }

/-- 'laws.FnThingsUsed', WHERE WHAT IT READS IS OF BULK AT MOST 1048576: true; the input reads as it did. -/
def fnThingsUsedUptoRow : OpenClaim := { program := "ytjpeciodihnolaa", sum := "7f05bdc5c1db1e463f5147fb53ec9832a232a4dc63a9a2d0a1c63b5c1fed1186", func := "loop.example/accesspolicies/laws.FnThingsUsed", spec := "fnThingsUsed", unfollowed := true, recurses := true, apart := false, narrowed := true }
def FnThingsUsedUptoSaid : Prop := fnThingsUsedUptoRow.holds Try.pinned (OpenSpec.upto fnThingsUsedSpec)

/-- 'laws.FnKindOf', WHERE WHAT IT READS IS OF BULK AT MOST 1048576: true; the input reads as it did. -/
def fnKindOfUptoRow : OpenClaim := { program := "ytjpeciodihnolaa", sum := "7f05bdc5c1db1e463f5147fb53ec9832a232a4dc63a9a2d0a1c63b5c1fed1186", func := "loop.example/accesspolicies/laws.FnKindOf", spec := "fnKindOf", unfollowed := true, recurses := true, apart := false, narrowed := true }
def FnKindOfUptoSaid : Prop := fnKindOfUptoRow.holds Try.pinned (OpenSpec.upto fnKindOfSpec)

/-- 'laws.FnSimplerExpr', WHERE WHAT IT READS IS OF BULK AT MOST 1048576: true; the input reads as it did. -/
def fnSimplerExprUptoRow : OpenClaim := { program := "ytjpeciodihnolaa", sum := "7f05bdc5c1db1e463f5147fb53ec9832a232a4dc63a9a2d0a1c63b5c1fed1186", func := "loop.example/accesspolicies/laws.FnSimplerExpr", spec := "fnSimplerExpr", unfollowed := true, recurses := true, apart := false, narrowed := true }
def FnSimplerExprUptoSaid : Prop := fnSimplerExprUptoRow.holds Try.pinned (OpenSpec.upto fnSimplerExprSpec)

end Rows
end Go.Proofs.Ytjpeciodihnolaa
