-- Written by a program of this session (wip/tool).
import Derived.Test.YtacpkmdnoggmoaaRows
import Derived.Test.YtacpkmdnoggmoaaPx1008
import Derived.Test.YtacpkmdnoggmoaaPureFnExactConforms
import Derived.WalkKit
import Derived.ProofKit
import Derived.OpenShut
import Derived.ShutString
import Derived.ChangeOld
import Derived.Below
import Derived.SizedLaws
import Derived.Test.YtacpkmdnoggmoaaWz
import Derived.Test.YtacpkmdnoggmoaaPxo
import Derived.WideShapes
namespace Go.Proofs.Ytacpkmdnoggmoaa.fnExactConforms
open Go.ChangeShapes Go.WideShapes Go.ChangeAt Go.RowKit
open Go.ChangeMaps (open_string shut_string)
open Go.Proofs.YtacpkmdnoggmoaaW.PrintWords Go.Proofs.Ytacpkmdnoggmoaa.P
set_option linter.unusedVariables false
theorem own : ownKnob Try.prog.godebug = none := by kernel_rfl
theorem laidOut : laidOutB Try.prog = true := by kernel_rfl
def IsRow (k : IntKind) (w : World) (a : Option Addr) (len cap : Nat) (zs : List Int) : Prop :=
  (a = none ∧ len = 0 ∧ cap = 0 ∧ zs = []) ∨
  ∃ x, a = some x ∧ len ≤ cap ∧ cap ≤ maxLen ∧ zs.length = cap ∧ (∀ i, i < zs.length → w.cell? (x.add i) = some (.int k (zs.getD i 0))) ∧ ∀ n ∈ zs, (Lit.int k n).wf = true
set_option maxRecDepth 100000 in
theorem lifted (os : Os) (started : os.Started) (H : Type) (enc : TypeId × Value → H) :
    ReturnsInHanded {} Try.checked os 8 .any (Rows.fnExactConformsSpec.pre6 enc Try.prog Try.f8 Rows.fnExactConformsRow.domain false) (Rows.fnExactConformsSpec.post enc Try.prog Try.f8 false true false false) := by
  refine returnsInHanded_of_change_sized (C := Try.checked) own started (by kernel_rfl) Try.func8
    (ChangeSpec.witness6 (enc := enc) (C := Try.checked) false ⟨#[], #[.agg #[.slice none 0 0, .slice none 0 0], .slice none 0 0, .agg #[.int .i64 0, .int .i64 0, .int .i64 0, .slice none 0 0]], []⟩ 8 (by kernel_rfl) (by kernel_rfl) (by kernel_rfl) (by kernel_rfl)) ?_
  intro W base args ds gs before hval0 hW hcnd hsz0 _
  have hsz : (DataW.weightsEach Try.prog (Try.f8.params.toList ++ Rows.fnExactConformsSpec.plain.varTypes Try.prog) (ds ++ gs)).all (· ≤ reachBytes) = true := hsz0
  have hval : ∀ (j : Nat) t v, Try.f8.params[j]? = some t → args[j]? = some v → Value.okWide Try.prog W .any base t v := hval0
  have hW' := hW
  obtain ⟨p, q, hA0, hV, rfl, hfz, hnd⟩ := hW
  have hA : DataW.TrodAll enc Try.prog W 0 (fun _ => true) true Try.f8.params.toList args.toList ds p := hA0
  rw [Try.params8] at hA hval hsz
  obtain ⟨v0, vs0, d0, ds0, p0, q0, hargs, rfl, rfl, h0, r0⟩ := trodAll_cons hA
  obtain ⟨v1, vs1, d1, ds1, p1, q1, rfl, rfl, rfl, h1, r1⟩ := trodAll_cons r0
  obtain ⟨v2, vs2, d2, ds2, p2, q2, rfl, rfl, rfl, h2, r2⟩ := trodAll_cons r1
  obtain ⟨rfl, rfl, rfl⟩ := trodAll_nil r2
  obtain rfl : args = #[v0, v1, v2] := by cases args; simp_all
  obtain ⟨rfl, rfl⟩ := trodVars_none hV
  have k0 := h0
  have lt0 : ∀ x ∈ p0, x.block < W.heap.size := by obtain ⟨m, hm⟩ := k0; exact DataW.trod_lt m _ _ _ hm
  obtain ⟨cl0, rfl, _⟩ := okWide_struct Try.underlying57 (hval 0 57 v0 rfl rfl)
  obtain ⟨y0, K0, f0⟩ := OpN.Trod openT57 h0
  obtain ⟨cl0⟩ := cl0
  obtain ⟨A0_0, c0_0, A0_1, c0_1, hcs0, l0_0, g0_0, l0_1, g0_1⟩ := k57_open K0
  replace hcs0 : cl0 = _ := hcs0
  subst hcs0
  have k1 := h1
  have lt1 : ∀ x ∈ p1, x.block < W.heap.size := by obtain ⟨m, hm⟩ := k1; exact DataW.trod_lt m _ _ _ hm
  obtain ⟨a1, len1, cap1, rfl⟩ := okWide_slice Try.underlying22 (hval 1 22 v1 rfl rfl)
  obtain ⟨y1, K1, f1⟩ := OpN.Trod (fun n => (OpN.slice (e := 68) Try.underlying22 (by kernel_rfl) (openT68 n)).down (Nat.le_succ n)) h1
  obtain ⟨A1_, c1_, hcs1, hl1, hC1⟩ := K1
  have e1 : (Value.slice a1 len1 cap1) = .slice A1_ y1.length c1_ := (List.cons.inj hcs1).1
  injection e1 with ea1 en1 ec1
  subst ea1 en1 ec1
  have k2 := h2
  have lt2 : ∀ x ∈ p2, x.block < W.heap.size := by obtain ⟨m, hm⟩ := k2; exact DataW.trod_lt m _ _ _ hm
  obtain ⟨cl2, rfl, _⟩ := okWide_struct Try.underlying31 (hval 2 31 v2 rfl rfl)
  obtain ⟨y2, K2, f2⟩ := OpN.Trod openT31 h2
  obtain ⟨cl2⟩ := cl2
  obtain ⟨A2_3, c2_3, hcs2, l2_3, g2_3⟩ := k31_open K2
  replace hcs2 : cl2 = _ := hcs2
  subst hcs2
  clear hA0 hval0 hsz0 hsz
  refine (P.laws_FnExactConforms.walk Pure.FnExactConforms A0_0 c0_0 y0.f0 A0_1 c0_1 y0.f1 a1 cap1 y1 y2.f0 y2.f1 y2.f2 A2_3 c2_3 y2.f3 W g0_0 l0_0 g0_1 l0_1 (by rcases y0 with ⟨_, _⟩; exact f0) hC1 hl1 f1 g2_3 l2_3 (by rcases y2 with ⟨_, _, _, _⟩; exact f2)).mono fun e W' ⟨he, bel⟩ => ?_
  subst he
  exact ⟨_, rfl, _, _, _, [], _, [], hW', trodAll_mk1 (shut_bool Try.underlying4 _), (trodAll_cons_mk (Below.trod laidOut (by kernel_rfl) (of_decide_eq_true (by kernel_rfl)) k0 bel lt0) (trodAll_cons_mk (Below.trod laidOut (by kernel_rfl) (of_decide_eq_true (by kernel_rfl)) k1 bel lt1) (trodAll_cons_mk (Below.trod laidOut (by kernel_rfl) (of_decide_eq_true (by kernel_rfl)) k2 bel lt2) trodAll_mk0))), rfl, bel.frame _, fun h => by cases h⟩
theorem over : Rows.fnExactConformsRow.holds Try.pinned (OpenSpec.ofChange Rows.fnExactConformsSpec) :=
  OpenClaim.holds_of_wide 8 Try.f8 rfl rfl rfl rfl rfl rfl rfl ⟨rfl, rfl, rfl, rfl, rfl⟩ rfl rfl rfl rfl rfl (by kernel_rfl) Try.func8 (by kernel_rfl)
    (of_decide_eq_true (by kernel_rfl)) (by unfold Func.isWrapper; first | (rw [if_pos (by decide +kernel)]; kernel_rfl) | (rw [if_neg (by decide +kernel)]; exact ⟨rfl, rfl⟩))
    (fun os started H enc _ => lifted os started H enc)
theorem proved : Rows.FnExactConformsSaid := over
#print axioms proved
end Go.Proofs.Ytacpkmdnoggmoaa.fnExactConforms
namespace Go.Proofs.Ytacpkmdnoggmoaa
/-- The row, under a short name, for the claim. -/
theorem fnExactConforms_holds : Rows.FnExactConformsSaid := fnExactConforms.proved
end Go.Proofs.Ytacpkmdnoggmoaa
