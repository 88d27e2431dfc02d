-- Written by a program of this session (wip/tool).
import Derived.Test.YtipoeghieeafjaaRows
import Derived.Test.YtipoeghieeafjaaPx1003
import Derived.Test.YtipoeghieeafjaaPureFnExactInScope
import Derived.WalkKit
import Derived.ProofKit
import Derived.OpenShut
import Derived.ShutString
import Derived.ChangeOld
import Derived.Below
import Derived.SizedLaws
import Derived.Test.YtipoeghieeafjaaWz
import Derived.Test.YtipoeghieeafjaaPxo
import Derived.WideShapes
namespace Go.Proofs.Ytipoeghieeafjaa.fnExactInScope
open Go.ChangeShapes Go.WideShapes Go.ChangeAt Go.RowKit
open Go.ChangeMaps (open_string shut_string)
open Go.Proofs.YtipoeghieeafjaaW.PrintWords Go.Proofs.Ytipoeghieeafjaa.P
set_option linter.unusedVariables false
theorem own : ownKnob Try.prog.godebug = none := by kernel_rfl
theorem laidOut : laidOutB Try.prog = true := by kernel_rfl
def IsRow (k : IntKind) (w : World) (a : Option Addr) (len cap : Nat) (zs : List Int) : Prop :=
  (a = none ∧ len = 0 ∧ cap = 0 ∧ zs = []) ∨
  ∃ x, a = some x ∧ len ≤ cap ∧ cap ≤ maxLen ∧ zs.length = cap ∧ (∀ i, i < zs.length → w.cell? (x.add i) = some (.int k (zs.getD i 0))) ∧ ∀ n ∈ zs, (Lit.int k n).wf = true
set_option maxRecDepth 100000 in
theorem lifted (os : Os) (started : os.Started) (H : Type) (enc : TypeId × Value → H) :
    ReturnsInHanded {} Try.checked os 3 .any (Rows.fnExactInScopeSpec.pre6 enc Try.prog Try.f3 Rows.fnExactInScopeRow.domain false) (Rows.fnExactInScopeSpec.post enc Try.prog Try.f3 false true false false) := by
  refine returnsInHanded_of_change_sized (C := Try.checked) own started (by kernel_rfl) Try.func3
    (ChangeSpec.witness6 (enc := enc) (C := Try.checked) false ⟨#[], #[.slice none 0 0, .agg #[.int .i64 0, .int .i64 0, .int .i64 0, .slice none 0 0], .agg #[.string ByteArray.empty, .bool false, .int .i64 0, .int .i64 0, .int .i64 0, .int .i64 0, .int .i64 0, .string ByteArray.empty, .slice none 0 0]], []⟩ 8 (by kernel_rfl) (by kernel_rfl) (by kernel_rfl) (by kernel_rfl)) ?_
  intro W base args ds gs before hval0 hW hcnd hsz0 _
  have hsz : (DataW.weightsEach Try.prog (Try.f3.params.toList ++ Rows.fnExactInScopeSpec.plain.varTypes Try.prog) (ds ++ gs)).all (· ≤ reachBytes) = true := hsz0
  have hval : ∀ (j : Nat) t v, Try.f3.params[j]? = some t → args[j]? = some v → Value.okWide Try.prog W .any base t v := hval0
  have hW' := hW
  obtain ⟨p, q, hA0, hV, rfl, hfz, hnd⟩ := hW
  have hA : DataW.TrodAll enc Try.prog W 0 (fun _ => true) true Try.f3.params.toList args.toList ds p := hA0
  rw [Try.params3] at hA hval hsz
  obtain ⟨v0, vs0, d0, ds0, p0, q0, hargs, rfl, rfl, h0, r0⟩ := trodAll_cons hA
  obtain ⟨v1, vs1, d1, ds1, p1, q1, rfl, rfl, rfl, h1, r1⟩ := trodAll_cons r0
  obtain ⟨v2, vs2, d2, ds2, p2, q2, rfl, rfl, rfl, h2, r2⟩ := trodAll_cons r1
  obtain ⟨rfl, rfl, rfl⟩ := trodAll_nil r2
  obtain rfl : args = #[v0, v1, v2] := by cases args; simp_all
  obtain ⟨rfl, rfl⟩ := trodVars_none hV
  have k0 := h0
  have lt0 : ∀ x ∈ p0, x.block < W.heap.size := by obtain ⟨m, hm⟩ := k0; exact DataW.trod_lt m _ _ _ hm
  obtain ⟨a0, len0, cap0, rfl⟩ := okWide_slice Try.underlying22 (hval 0 22 v0 rfl rfl)
  obtain ⟨y0, K0, f0⟩ := OpN.Trod (fun n => (OpN.slice (e := 72) Try.underlying22 (by kernel_rfl) (openT72 n)).down (Nat.le_succ n)) h0
  obtain ⟨A0_, c0_, hcs0, hl0, hC0⟩ := K0
  have e0 : (Value.slice a0 len0 cap0) = .slice A0_ y0.length c0_ := (List.cons.inj hcs0).1
  injection e0 with ea0 en0 ec0
  subst ea0 en0 ec0
  have k1 := h1
  have lt1 : ∀ x ∈ p1, x.block < W.heap.size := by obtain ⟨m, hm⟩ := k1; exact DataW.trod_lt m _ _ _ hm
  obtain ⟨cl1, rfl, _⟩ := okWide_struct Try.underlying25 (hval 1 25 v1 rfl rfl)
  obtain ⟨y1, K1, f1⟩ := OpN.Trod openT25 h1
  obtain ⟨cl1⟩ := cl1
  obtain ⟨A1_3, c1_3, hcs1, l1_3, g1_3⟩ := k25_open K1
  replace hcs1 : cl1 = _ := hcs1
  subst hcs1
  have k2 := h2
  have lt2 : ∀ x ∈ p2, x.block < W.heap.size := by obtain ⟨m, hm⟩ := k2; exact DataW.trod_lt m _ _ _ hm
  obtain ⟨cl2, rfl, _⟩ := okWide_struct Try.underlying30 (hval 2 30 v2 rfl rfl)
  obtain ⟨y2, K2, f2⟩ := OpN.Trod openT30 h2
  obtain ⟨cl2⟩ := cl2
  obtain ⟨A2_8, c2_8, hcs2, l2_8, g2_8⟩ := k30_open K2
  replace hcs2 : cl2 = _ := hcs2
  subst hcs2
  clear hA0 hval0 hsz0 hsz
  refine (P.laws_FnExactInScope.walk Pure.FnExactInScope a0 cap0 y0 y1.f0 y1.f1 y1.f2 A1_3 c1_3 y1.f3 y2.f0 y2.f1 y2.f2 y2.f3 y2.f4 y2.f5.f0 y2.f5.f1 y2.f5.f2 A2_8 c2_8 y2.f5.f3 W hC0 hl0 f0 g1_3 l1_3 (by rcases y1 with ⟨_, _, _, _⟩; exact f1) g2_8 l2_8 (by rcases y2 with ⟨_, _, _, _, _, ⟨_, _, _, _⟩⟩; exact f2)).mono fun e W' ⟨he, bel⟩ => ?_
  subst he
  exact ⟨_, rfl, _, _, _, [], _, [], hW', trodAll_mk1 (shut_bool Try.underlying4 _), (trodAll_cons_mk (Below.trod laidOut (by kernel_rfl) (of_decide_eq_true (by kernel_rfl)) k0 bel lt0) (trodAll_cons_mk (Below.trod laidOut (by kernel_rfl) (of_decide_eq_true (by kernel_rfl)) k1 bel lt1) (trodAll_cons_mk (Below.trod laidOut (by kernel_rfl) (of_decide_eq_true (by kernel_rfl)) k2 bel lt2) trodAll_mk0))), rfl, bel.frame _, fun h => by cases h⟩
theorem over : Rows.fnExactInScopeRow.holds Try.pinned (OpenSpec.ofChange Rows.fnExactInScopeSpec) :=
  OpenClaim.holds_of_wide 3 Try.f3 rfl rfl rfl rfl rfl rfl rfl ⟨rfl, rfl, rfl, rfl, rfl⟩ rfl rfl rfl rfl rfl (by kernel_rfl) Try.func3 (by kernel_rfl)
    (of_decide_eq_true (by kernel_rfl)) (by unfold Func.isWrapper; first | (rw [if_pos (by decide +kernel)]; kernel_rfl) | (rw [if_neg (by decide +kernel)]; exact ⟨rfl, rfl⟩))
    (fun os started H enc _ => lifted os started H enc)
theorem proved : Rows.FnExactInScopeSaid := over
#print axioms proved
end Go.Proofs.Ytipoeghieeafjaa.fnExactInScope
namespace Go.Proofs.Ytipoeghieeafjaa
/-- The row, under a short name, for the claim. -/
theorem fnExactInScope_holds : Rows.FnExactInScopeSaid := fnExactInScope.proved
end Go.Proofs.Ytipoeghieeafjaa
