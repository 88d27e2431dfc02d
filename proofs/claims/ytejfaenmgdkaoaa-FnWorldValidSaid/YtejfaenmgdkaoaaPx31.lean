-- Written by a program of this session (wip/tool).
import Derived.Test.YtejfaenmgdkaoaaPx0
import Derived.Test.YtejfaenmgdkaoaaPx2
import Derived.Test.YtejfaenmgdkaoaaPx5
import Derived.Test.YtejfaenmgdkaoaaPx30
namespace Go.Proofs.Ytejfaenmgdkaoaa.P
open Go.RowKit Go.Proofs.YtejfaenmgdkaoaaW.PrintWords Go.Proofs.YtejfaenmgdkaoaaW.PrintLast Go.Proofs.YtejfaenmgdkaoaaW.PrintMore
attribute [local go_sem] max2_int min2_int max_two min_two max_three min_three max_four min_four   -- for this text's walks alone
set_option linter.unusedVariables false
set_option linter.unusedSimpArgs false

/-! ### spec_DrawWorldValid: function 18 -/
def spec_DrawWorldValid.f (k : Nat) (l0 : List Int) : Option ((List (S43))) := (spec_l20Open.f l0).bind fun bt342 => ((spec_l20Things.f k bt342.1 bt342.2 2).bind fun bt345 => (some bt345.1))
theorem spec_DrawWorldValid.mono : ∀ a0 k, LeO (spec_DrawWorldValid.f k a0) (spec_DrawWorldValid.f (k + 1) a0) := by
 intro a0 k
 unfold spec_DrawWorldValid.f
 repeat' first
   | (with_reducible exact spec_l20Things.mono _ _ _ _)
   | (with_reducible exact LeO.refl _)
   | (with_reducible exact LeO.none _)
   | (with_reducible refine LeO.ite ?_ ?_)
   | (with_reducible refine LeO.bind ?_ (fun _ => ?_))
   | exact spec_l20Things.mono _ _ _ _
   | exact LeO.none _
   | refine LeO.ite ?_ ?_
   | refine LeO.bind ?_ (fun _ => ?_)
set_option maxHeartbeats 8000000 in
set_option maxRecDepth 100000 in
theorem spec_DrawWorldValid.calls (k : Nat) (A0 : Option Addr) (c0 : Nat) (l0 : List Int) (r : List (S43)) (w : World) (hr0 : Kd.C (Kd.int .u8) w A0 l0.length l0) (hc0 : l0.length ≤ c0) (h : spec_DrawWorldValid.f k l0 = some r) :
  Calls Try.prog 18 #[.slice A0 l0.length c0] w fun e w' => ∃ v0_ : Value, e = .returned (v0_) ∧ Kd.S k43 43 w' w.heap.size (fun _ => True) v0_ r ∧ Below w.heap.size w w' := by
 have HR0 := Aside0.mk hr0
 have HC0 := Aside0.mk hc0
 clear hr0 hc0
 have HB := Aside0.mk (Below.refl w.heap.size w)
 have H : ((spec_l20Open.f l0).bind fun bt342 => ((spec_l20Things.f k bt342.1 bt342.2 2).bind fun bt345 => (some bt345.1))) = some r := h
 clear h
 replace H := Option.bind_eq_some_iff.mp H
 obtain ⟨⟨t342, t343⟩, A20, H⟩ := H
 replace H : ((spec_l20Things.f k t342 t343 2).bind fun bt345 => (some bt345.1)) = some r := H
 have A2 := Aside0.mk A20
 clear A20
 replace H := Option.bind_eq_some_iff.mp H
 obtain ⟨⟨t345, t348⟩, A30, H⟩ := H
 replace H : (some t345) = some r := H
 have A3 := Aside0.mk A30
 clear A30
 obtain rfl := Option.some.inj H
 go_enter Try.func18, Try.ntmps18
 go_wp2_with (first | ((with_reducible refine gate_callee (f := 42) rfl ?_); refine gl (some 4) Try.func42 #[.slice A0 l0.length c0] ?_; (with_reducible refine (spec_l20Open.calls _ _ l0 t342 t343 w _ ?side1 ?side2 ?side3 A2.out).mono ?_); (case side1 => exact bw HB.out); (case side2 => exact HR0.out); (case side3 => exact HC0.out); rintro e w4 ⟨g344, rfl, hi, hb, hb2⟩; refine ⟨_, rfl, ?_⟩; have n0_ := Aside0.mk (hb); have n1_ := Aside0.mk (hi); clear HB; have HB := n0_; have HI344 := n1_; clear n0_ n1_; (try clear hb); (try clear hb2); (try clear hk); (try clear hi)) | ((with_reducible refine gate_callee (f := 50) rfl ?_); refine gl (some 5) Try.func50 #[.pointer (some ⟨g344, 0, none⟩), .int .i64 2] ?_; (with_reducible refine (spec_l20Things.calls k g344 t342 t343 2 t345 t348 w _ ?side1 ?side2 A3.out).mono ?_); (case side1 => exact sw105 HI344.out); (case side2 => exact bw HB.out); rintro e w5 ⟨v346, rfl, ho0, hi, hb, hk⟩; refine ⟨_, rfl, ?_⟩; have n0_ := Aside0.mk (Kd.S_lower ho0 (below_size (by exact bw HB.out))); have n1_ := Aside0.mk (hb); have n2_ := Aside0.mk (hi); clear HB; clear HI344; have HO347 := n0_; have HB := n1_; have HI344 := n2_; clear n0_ n1_ n2_; (try clear hb); (try clear hb2); (try clear hk); (try clear hi); (try clear ho0)))
 go_ret
 exact ⟨_, by first | rfl | (simp [errW_none, errW_some] <;> rfl) | (simp [*, errW_none, errW_some] <;> rfl), by exact Kd.xS HO347.out, by exact bw HB.out⟩

end Go.Proofs.Ytejfaenmgdkaoaa.P
