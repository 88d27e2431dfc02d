-- Written by a program of this session (wip/tool).
import Derived.Test.YtbbbgochcfccgaaRows
import Derived.Test.YtbbbgochcfccgaaPx1004
import Derived.Test.YtbbbgochcfccgaaPureFnExactKindOf
import Derived.WalkKit
import Derived.ProofKit
import Derived.OpenShut
import Derived.ShutString
import Derived.ChangeOld
import Derived.Below
import Derived.SizedLaws
import Derived.Test.YtbbbgochcfccgaaWz
import Derived.Test.YtbbbgochcfccgaaPxo
import Derived.WideShapes
namespace Go.Proofs.Ytbbbgochcfccgaa.fnExactKindOf
open Go.ChangeShapes Go.WideShapes Go.ChangeAt Go.RowKit
open Go.ChangeMaps (open_string shut_string)
open Go.Proofs.YtbbbgochcfccgaaW.PrintWords Go.Proofs.Ytbbbgochcfccgaa.P
set_option linter.unusedVariables false
theorem own : ownKnob Try.prog.godebug = none := by kernel_rfl
theorem laidOut : laidOutB Try.prog = true := by kernel_rfl
def IsRow (k : IntKind) (w : World) (a : Option Addr) (len cap : Nat) (zs : List Int) : Prop :=
  (a = none ∧ len = 0 ∧ cap = 0 ∧ zs = []) ∨
  ∃ x, a = some x ∧ len ≤ cap ∧ cap ≤ maxLen ∧ zs.length = cap ∧ (∀ i, i < zs.length → w.cell? (x.add i) = some (.int k (zs.getD i 0))) ∧ ∀ n ∈ zs, (Lit.int k n).wf = true
set_option maxRecDepth 100000 in
theorem lifted (os : Os) (started : os.Started) (H : Type) (enc : TypeId × Value → H) :
    ReturnsInHanded {} Try.checked os 4 .any (Rows.fnExactKindOfSpec.pre6 enc Try.prog Try.f4 Rows.fnExactKindOfRow.domain false) (Rows.fnExactKindOfSpec.post enc Try.prog Try.f4 false true false false) := by
  refine returnsInHanded_of_change_sized (C := Try.checked) own started (by kernel_rfl) Try.func4
    (ChangeSpec.witness6 (enc := enc) (C := Try.checked) false ⟨#[], #[.agg #[.slice none 0 0, .slice none 0 0], .agg #[.int .i64 0, .int .i64 0, .string ByteArray.empty, .slice none 0 0]], []⟩ 8 (by kernel_rfl) (by kernel_rfl) (by kernel_rfl) (by kernel_rfl)) ?_
  intro W base args ds gs before hval0 hW hcnd hsz0 _
  have hsz : (DataW.weightsEach Try.prog (Try.f4.params.toList ++ Rows.fnExactKindOfSpec.plain.varTypes Try.prog) (ds ++ gs)).all (· ≤ reachBytes) = true := hsz0
  have hval : ∀ (j : Nat) t v, Try.f4.params[j]? = some t → args[j]? = some v → Value.okWide Try.prog W .any base t v := hval0
  have hW' := hW
  obtain ⟨p, q, hA0, hV, rfl, hfz, hnd⟩ := hW
  have hA : DataW.TrodAll enc Try.prog W 0 (fun _ => true) true Try.f4.params.toList args.toList ds p := hA0
  rw [Try.params4] at hA hval hsz
  obtain ⟨v0, vs0, d0, ds0, p0, q0, hargs, rfl, rfl, h0, r0⟩ := trodAll_cons hA
  obtain ⟨v1, vs1, d1, ds1, p1, q1, rfl, rfl, rfl, h1, r1⟩ := trodAll_cons r0
  obtain ⟨rfl, rfl, rfl⟩ := trodAll_nil r1
  obtain rfl : args = #[v0, v1] := by cases args; simp_all
  obtain ⟨rfl, rfl⟩ := trodVars_none hV
  have k0 := h0
  have lt0 : ∀ x ∈ p0, x.block < W.heap.size := by obtain ⟨m, hm⟩ := k0; exact DataW.trod_lt m _ _ _ hm
  obtain ⟨cl0, rfl, _⟩ := okWide_struct Try.underlying35 (hval 0 35 v0 rfl rfl)
  obtain ⟨y0, K0, f0⟩ := OpN.Trod openT35 h0
  obtain ⟨cl0⟩ := cl0
  obtain ⟨A0_0, c0_0, A0_1, c0_1, hcs0, l0_0, g0_0, l0_1, g0_1⟩ := k35_open K0
  replace hcs0 : cl0 = _ := hcs0
  subst hcs0
  have k1 := h1
  have lt1 : ∀ x ∈ p1, x.block < W.heap.size := by obtain ⟨m, hm⟩ := k1; exact DataW.trod_lt m _ _ _ hm
  obtain ⟨cl1, rfl, _⟩ := okWide_struct Try.underlying24 (hval 1 24 v1 rfl rfl)
  obtain ⟨y1, K1, f1⟩ := OpN.Trod openT24 h1
  obtain ⟨cl1⟩ := cl1
  obtain ⟨A1_3, c1_3, hcs1, l1_3, g1_3⟩ := k24_open K1
  replace hcs1 : cl1 = _ := hcs1
  subst hcs1
  clear hA0 hval0 hsz0 hsz
  refine (P.laws_FnExactKindOf.walk Pure.FnExactKindOf A0_0 c0_0 y0.f0 A0_1 c0_1 y0.f1 y1.f0 y1.f1 y1.f2 A1_3 c1_3 y1.f3 W g0_0 l0_0 g0_1 l0_1 (by rcases y0 with ⟨_, _⟩; exact f0) g1_3 l1_3 (by rcases y1 with ⟨_, _, _, _⟩; exact f1)).mono fun e W' ⟨he, bel⟩ => ?_
  subst he
  exact ⟨_, rfl, _, _, _, [], _, [], hW', trodAll_mk1 (shut_bool Try.underlying4 _), (trodAll_cons_mk (Below.trod laidOut (by kernel_rfl) (of_decide_eq_true (by kernel_rfl)) k0 bel lt0) (trodAll_cons_mk (Below.trod laidOut (by kernel_rfl) (of_decide_eq_true (by kernel_rfl)) k1 bel lt1) trodAll_mk0)), rfl, bel.frame _, fun h => by cases h⟩
theorem over : Rows.fnExactKindOfRow.holds Try.pinned (OpenSpec.ofChange Rows.fnExactKindOfSpec) :=
  OpenClaim.holds_of_wide 4 Try.f4 rfl rfl rfl rfl rfl rfl rfl ⟨rfl, rfl, rfl, rfl, rfl⟩ rfl rfl rfl rfl rfl (by kernel_rfl) Try.func4 (by kernel_rfl)
    (of_decide_eq_true (by kernel_rfl)) (by unfold Func.isWrapper; first | (rw [if_pos (by decide +kernel)]; kernel_rfl) | (rw [if_neg (by decide +kernel)]; exact ⟨rfl, rfl⟩))
    (fun os started H enc _ => lifted os started H enc)
theorem proved : Rows.FnExactKindOfSaid := over
#print axioms proved
end Go.Proofs.Ytbbbgochcfccgaa.fnExactKindOf
namespace Go.Proofs.Ytbbbgochcfccgaa
/-- The row, under a short name, for the claim. -/
theorem fnExactKindOf_holds : Rows.FnExactKindOfSaid := fnExactKindOf.proved
end Go.Proofs.Ytbbbgochcfccgaa
