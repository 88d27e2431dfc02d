-- Written by a program of this session (wip/tool).
import Derived.Test.YtongmkdapcgmfaaPx0
import Derived.Test.YtongmkdapcgmfaaPx93
import Derived.Test.YtongmkdapcgmfaaPx94
import Derived.Test.YtongmkdapcgmfaaPx97
import Derived.Test.YtongmkdapcgmfaaPx98
import Derived.Test.YtongmkdapcgmfaaPx101
namespace Go.Proofs.Ytongmkdapcgmfaa.P
open Go.RowKit Go.Proofs.YtongmkdapcgmfaaW.PrintWords Go.Proofs.YtongmkdapcgmfaaW.PrintLast Go.Proofs.YtongmkdapcgmfaaW.PrintMore
attribute [local go_sem] max2_int min2_int max_two min_two max_three min_three max_four min_four   -- for this text's walks alone
set_option linter.unusedVariables false
set_option linter.unusedSimpArgs false

/-! ### laws_FnExactPoliciesValid: function 9 -/
def laws_FnExactPoliciesValid.f (k : Nat) (l0 : List (S101)) : Option (Bool) := (laws_szPolicyS.f k l0 1048576).bind fun t912 => (if t912 < 0 then (some true) else ((laws_toPolicyS.f k l0).bind fun t913 => ((spec_PoliciesValid.f k t913).bind fun t916 => ((laws_toPolicyS.f k l0).bind fun t917 => ((impl_PoliciesValid.f k t917).bind fun t920 => (if (t920 != t916) = true then (some false) else ((laws_toPolicyS.f k l0).bind fun t921 => ((laws_eqPolicyS.f k t917 t921).bind fun t924 => (if t924 = true then (some true) else (some false))))))))))
theorem laws_FnExactPoliciesValid.mono : ∀ a0 k, LeO (laws_FnExactPoliciesValid.f k a0) (laws_FnExactPoliciesValid.f (k + 1) a0) := by
 intro a0 k
 unfold laws_FnExactPoliciesValid.f
 repeat' first
   | (with_reducible exact impl_PoliciesValid.mono _ _)
   | (with_reducible exact laws_eqPolicyS.mono _ _ _)
   | (with_reducible exact laws_szPolicyS.mono _ _ _)
   | (with_reducible exact laws_toPolicyS.mono _ _)
   | (with_reducible exact spec_PoliciesValid.mono _ _)
   | (with_reducible exact LeO.refl _)
   | (with_reducible exact LeO.none _)
   | (with_reducible refine LeO.ite ?_ ?_)
   | (with_reducible refine LeO.bind ?_ (fun _ => ?_))
   | exact impl_PoliciesValid.mono _ _
   | exact laws_eqPolicyS.mono _ _ _
   | exact laws_szPolicyS.mono _ _ _
   | exact laws_toPolicyS.mono _ _
   | exact spec_PoliciesValid.mono _ _
   | exact LeO.none _
   | refine LeO.ite ?_ ?_
   | refine LeO.bind ?_ (fun _ => ?_)
set_option maxHeartbeats 8000000 in
set_option maxRecDepth 100000 in
theorem laws_FnExactPoliciesValid.calls (k : Nat) (A0 : Option Addr) (c0 : Nat) (l0 : List (S101)) (r : Bool) (w : World) (hr0 : Kd.C k101 w A0 l0.length l0) (hc0 : l0.length ≤ c0) (h : laws_FnExactPoliciesValid.f k l0 = some r) :
  Calls Try.prog 9 #[.slice A0 l0.length c0] w fun e w' => e = .returned (.bool r) ∧ Below w.heap.size w w' := by
 have HR0 := Aside0.mk hr0
 have HC0 := Aside0.mk hc0
 clear hr0 hc0
 have HB := Aside0.mk (Below.refl w.heap.size w)
 have H : ((laws_szPolicyS.f k l0 1048576).bind fun t912 => (if t912 < 0 then (some true) else ((laws_toPolicyS.f k l0).bind fun t913 => ((spec_PoliciesValid.f k t913).bind fun t916 => ((laws_toPolicyS.f k l0).bind fun t917 => ((impl_PoliciesValid.f k t917).bind fun t920 => (if (t920 != t916) = true then (some false) else ((laws_toPolicyS.f k l0).bind fun t921 => ((laws_eqPolicyS.f k t917 t921).bind fun t924 => (if t924 = true then (some true) else (some false))))))))))) = some r := h
 clear h
 replace H := Option.bind_eq_some_iff.mp H
 obtain ⟨t912, A20, H⟩ := H
 replace H : (if t912 < 0 then (some true) else ((laws_toPolicyS.f k l0).bind fun t913 => ((spec_PoliciesValid.f k t913).bind fun t916 => ((laws_toPolicyS.f k l0).bind fun t917 => ((impl_PoliciesValid.f k t917).bind fun t920 => (if (t920 != t916) = true then (some false) else ((laws_toPolicyS.f k l0).bind fun t921 => ((laws_eqPolicyS.f k t917 t921).bind fun t924 => (if t924 = true then (some true) else (some false)))))))))) = some r := H
 have A2 := Aside0.mk A20
 clear A20
 have HC3 := Aside0.mk H
 clear H
 go_enter Try.func9, Try.ntmps9
 go_upto_if 11 with (first | ((with_reducible refine gate_callee (f := 39) rfl ?_); refine gl (some 9) Try.func39 #[.slice A0 l0.length c0, .int .i64 1048576] ?_; (with_reducible refine (laws_szPolicyS.calls k _ _ l0 1048576 t912 _ ?side1 ?side2 A2.out).mono ?_); (case side1 => repeat (first | exact HR0.out | (with_reducible refine Kd.C_alloc ?_ _) | (with_reducible refine Kd.C_drewN ?_ _) | (with_reducible refine Kd.C_drew ?_))); (case side2 => exact HC0.out); rintro e w4 ⟨rfl, hb⟩; refine ⟨_, rfl, ?_⟩; have n0_ := Aside0.mk (below_step (by exact bw HB.out) hb); clear HB; have HB := n0_; clear n0_; (try clear hb); (try clear hb2); (try clear hk); (try clear hi)))
 (try simp only [Act.put, List.setIfInBounds_toArray, List.set_cons_zero, List.set_cons_succ])
 have H := HC3.out
 clear HC3
 by_cases c5 : t912 < 0
 ·
  rw [if_pos c5] at H
  have c5b0 : decide (t912 < 0) = true := decide_eq_true c5
  clear c5
  (first | rw [c5b0] | (simp only [i64_w, i32_w]; rw [c5b0]) | rw [c5b2] | rw [c5b1] | skip)
  obtain rfl := Option.some.inj H
  go_wp2
  go_ret
  exact ⟨by first | rfl | (simp [errW_none, errW_some] <;> rfl) | (simp [*, errW_none, errW_some] <;> rfl), by exact bw HB.out⟩
 ·
  rw [if_neg c5] at H
  have c5b0 : decide (t912 < 0) = false := decide_eq_false c5
  clear c5
  (first | rw [c5b0] | (simp only [i64_w, i32_w]; rw [c5b0]) | rw [c5b2] | rw [c5b1] | skip)
  replace H := Option.bind_eq_some_iff.mp H
  obtain ⟨t913, A60, H⟩ := H
  replace H : ((spec_PoliciesValid.f k t913).bind fun t916 => ((laws_toPolicyS.f k l0).bind fun t917 => ((impl_PoliciesValid.f k t917).bind fun t920 => (if (t920 != t916) = true then (some false) else ((laws_toPolicyS.f k l0).bind fun t921 => ((laws_eqPolicyS.f k t917 t921).bind fun t924 => (if t924 = true then (some true) else (some false)))))))) = some r := H
  have A6 := Aside0.mk A60
  clear A60
  replace H := Option.bind_eq_some_iff.mp H
  obtain ⟨t916, A70, H⟩ := H
  replace H : ((laws_toPolicyS.f k l0).bind fun t917 => ((impl_PoliciesValid.f k t917).bind fun t920 => (if (t920 != t916) = true then (some false) else ((laws_toPolicyS.f k l0).bind fun t921 => ((laws_eqPolicyS.f k t917 t921).bind fun t924 => (if t924 = true then (some true) else (some false))))))) = some r := H
  have A7 := Aside0.mk A70
  clear A70
  replace H := Option.bind_eq_some_iff.mp H
  obtain ⟨t917, A80, H⟩ := H
  replace H : ((impl_PoliciesValid.f k t917).bind fun t920 => (if (t920 != t916) = true then (some false) else ((laws_toPolicyS.f k l0).bind fun t921 => ((laws_eqPolicyS.f k t917 t921).bind fun t924 => (if t924 = true then (some true) else (some false)))))) = some r := H
  have A8 := Aside0.mk A80
  clear A80
  replace H := Option.bind_eq_some_iff.mp H
  obtain ⟨t920, A90, H⟩ := H
  replace H : (if (t920 != t916) = true then (some false) else ((laws_toPolicyS.f k l0).bind fun t921 => ((laws_eqPolicyS.f k t917 t921).bind fun t924 => (if t924 = true then (some true) else (some false))))) = some r := H
  have A9 := Aside0.mk A90
  clear A90
  have HC10 := Aside0.mk H
  clear H
  go_upto_if 21 with (first | ((with_reducible refine gate_callee (f := 41) rfl ?_); refine gl (some 13) Try.func41 #[.slice A0 l0.length c0] ?_; (with_reducible refine (laws_toPolicyS.calls k _ _ l0 t913 _ ?side1 ?side2 A6.out).mono ?_); (case side1 => repeat (first | exact (Kd.C_below HR0.out HB.out) | (with_reducible refine Kd.C_alloc ?_ _) | (with_reducible refine Kd.C_drewN ?_ _) | (with_reducible refine Kd.C_drew ?_))); (case side2 => exact HC0.out); rintro e w11 ⟨v914, rfl, ho0, hb⟩; refine ⟨_, rfl, ?_⟩; have n0_ := Aside0.mk (Kd.R_lower ho0 (below_size (by exact bw HB.out))); have n1_ := Aside0.mk (below_step (by exact bw HB.out) hb); clear HB; have HO915 := n0_; have HB := n1_; clear n0_ n1_; (try clear hb); (try clear hb2); (try clear hk); (try clear hi); (try clear ho0); obtain ⟨Ao12, co12, eo12⟩ := Kd.R_slice HO915.out; subst eo12) | ((with_reducible refine gate_callee (f := 40) rfl ?_); refine gl (some 14) Try.func40 #[.slice Ao12 t913.length co12] ?_; (with_reducible refine (spec_PoliciesValid.calls k _ _ t913 t916 _ ?side1 ?side2 A7.out).mono ?_); (case side1 => repeat (first | exact (Kd.R_reads' HO915.out).2.2 | (with_reducible refine Kd.C_alloc ?_ _) | (with_reducible refine Kd.C_drewN ?_ _) | (with_reducible refine Kd.C_drew ?_))); (case side2 => exact (Kd.R_reads' HO915.out).2.1); rintro e w13 ⟨rfl, hb⟩; refine ⟨_, rfl, ?_⟩; have n0_ := Aside0.mk (Kd.R_below (by exact Kd.xR HO915.out) hb); have n1_ := Aside0.mk (below_step (by exact bw HB.out) hb); clear HO915; clear HB; have HO915 := n0_; have HB := n1_; clear n0_ n1_; (try clear hb); (try clear hb2); (try clear hk); (try clear hi)) | ((with_reducible refine gate_callee (f := 41) rfl ?_); refine gl (some 16) Try.func41 #[.slice A0 l0.length c0] ?_; (with_reducible refine (laws_toPolicyS.calls k _ _ l0 t917 _ ?side1 ?side2 A8.out).mono ?_); (case side1 => repeat (first | exact (Kd.C_below HR0.out HB.out) | (with_reducible refine Kd.C_alloc ?_ _) | (with_reducible refine Kd.C_drewN ?_ _) | (with_reducible refine Kd.C_drew ?_))); (case side2 => exact HC0.out); rintro e w14 ⟨v918, rfl, ho0, hb⟩; refine ⟨_, rfl, ?_⟩; have n0_ := Aside0.mk (Kd.R_elder' (by exact Kd.xR HO915.out) (Kd.R_base ho0) hb); have n1_ := Aside0.mk (Kd.R_lower (Kd.R_new' ho0 (Kd.R_lt (by exact Kd.xR HO915.out))) (below_size (by exact bw HB.out))); have n2_ := Aside0.mk (below_step (by exact bw HB.out) hb); clear HO915; clear HB; have HO915 := n0_; have HO919 := n1_; have HB := n2_; clear n0_ n1_ n2_; (try clear hb); (try clear hb2); (try clear hk); (try clear hi); (try clear ho0); obtain ⟨Ao15, co15, eo15⟩ := Kd.R_slice HO919.out; subst eo15) | ((with_reducible refine gate_callee (f := 42) rfl ?_); refine gl (some 18) Try.func42 #[.slice Ao15 t917.length co15] ?_; (with_reducible refine (impl_PoliciesValid.calls k _ _ t917 t920 _ ?side1 ?side2 A9.out).mono ?_); (case side1 => repeat (first | exact (Kd.R_reads' HO919.out).2.2 | (with_reducible refine Kd.C_alloc ?_ _) | (with_reducible refine Kd.C_drewN ?_ _) | (with_reducible refine Kd.C_drew ?_))); (case side2 => exact (Kd.R_reads' HO919.out).2.1); rintro e w16 ⟨rfl, hb⟩; refine ⟨_, rfl, ?_⟩; have n0_ := Aside0.mk (Kd.R_below (by exact Kd.xR HO915.out) hb); have n1_ := Aside0.mk (Kd.R_below (by exact Kd.xR HO919.out) hb); have n2_ := Aside0.mk (below_step (by exact bw HB.out) hb); clear HO915; clear HO919; clear HB; have HO915 := n0_; have HO919 := n1_; have HB := n2_; clear n0_ n1_ n2_; (try clear hb); (try clear hb2); (try clear hk); (try clear hi)))
  (try simp only [Act.put, List.setIfInBounds_toArray, List.set_cons_zero, List.set_cons_succ])
  have H := HC10.out
  clear HC10
  by_cases c17 : (t920 != t916) = true
  ·
   rw [if_pos c17] at H
   have c17b0 : (t920 != t916) = true := c17
   (try (have c17b1 : decide (t920 = t916) = false := by simpa using c17))
   (try (have c17b2 : (t920 == t916) = false := by simpa using c17))
   (try (have c17b3 : ¬ (t920 = t916) := by simpa using c17))
   clear c17
   (first | rw [c17b0] | (simp only [i64_w, i32_w]; rw [c17b0]) | rw [c17b2] | rw [c17b1] | skip)
   obtain rfl := Option.some.inj H
   go_wp2
   go_ret
   exact ⟨by first | rfl | (simp [errW_none, errW_some] <;> rfl) | (simp [*, errW_none, errW_some] <;> rfl), by exact bw HB.out⟩
  ·
   rw [if_neg c17] at H
   have c17b0 : (t920 != t916) = false := by simpa using c17
   (try (have c17b1 : decide (t920 = t916) = true := by simpa using c17))
   (try (have c17b2 : (t920 == t916) = true := by simpa using c17))
   clear c17
   (first | rw [c17b0] | (simp only [i64_w, i32_w]; rw [c17b0]) | rw [c17b2] | rw [c17b1] | skip)
   replace H := Option.bind_eq_some_iff.mp H
   obtain ⟨t921, A180, H⟩ := H
   replace H : ((laws_eqPolicyS.f k t917 t921).bind fun t924 => (if t924 = true then (some true) else (some false))) = some r := H
   have A18 := Aside0.mk A180
   clear A180
   replace H := Option.bind_eq_some_iff.mp H
   obtain ⟨t924, A190, H⟩ := H
   replace H : (if t924 = true then (some true) else (some false)) = some r := H
   have A19 := Aside0.mk A190
   clear A190
   have HC20 := Aside0.mk H
   clear H
   go_upto_if 26 with (first | ((with_reducible refine gate_callee (f := 41) rfl ?_); refine gl (some 24) Try.func41 #[.slice A0 l0.length c0] ?_; (with_reducible refine (laws_toPolicyS.calls k _ _ l0 t921 _ ?side1 ?side2 A18.out).mono ?_); (case side1 => repeat (first | exact (Kd.C_below HR0.out HB.out) | (with_reducible refine Kd.C_alloc ?_ _) | (with_reducible refine Kd.C_drewN ?_ _) | (with_reducible refine Kd.C_drew ?_))); (case side2 => exact HC0.out); rintro e w21 ⟨v922, rfl, ho0, hb⟩; refine ⟨_, rfl, ?_⟩; have n0_ := Aside0.mk (Kd.R_elder' (by exact Kd.xR HO915.out) (Kd.R_base ho0) hb); have n1_ := Aside0.mk (Kd.R_elder' (by exact Kd.xR HO919.out) (Kd.R_base ho0) hb); have n2_ := Aside0.mk (Kd.R_lower (Kd.R_new' (Kd.R_new' ho0 (Kd.R_lt (by exact Kd.xR HO915.out))) (Kd.R_lt (by exact Kd.xR HO919.out))) (below_size (by exact bw HB.out))); have n3_ := Aside0.mk (below_step (by exact bw HB.out) hb); clear HO915; clear HO919; clear HB; have HO915 := n0_; have HO919 := n1_; have HO923 := n2_; have HB := n3_; clear n0_ n1_ n2_ n3_; (try clear hb); (try clear hb2); (try clear hk); (try clear hi); (try clear ho0); obtain ⟨Ao22, co22, eo22⟩ := Kd.R_slice HO923.out; subst eo22) | ((with_reducible refine gate_callee (f := 43) rfl ?_); refine gl (some 25) Try.func43 #[.slice Ao15 t917.length co15, .slice Ao22 t921.length co22] ?_; (with_reducible refine (laws_eqPolicyS.calls k _ _ t917 _ _ t921 t924 _ ?side1 ?side2 ?side3 ?side4 A19.out).mono ?_); (case side1 => repeat (first | exact (Kd.R_reads' HO919.out).2.2 | (with_reducible refine Kd.C_alloc ?_ _) | (with_reducible refine Kd.C_drewN ?_ _) | (with_reducible refine Kd.C_drew ?_))); (case side2 => exact (Kd.R_reads' HO919.out).2.1); (case side3 => repeat (first | exact (Kd.R_reads' HO923.out).2.2 | (with_reducible refine Kd.C_alloc ?_ _) | (with_reducible refine Kd.C_drewN ?_ _) | (with_reducible refine Kd.C_drew ?_))); (case side4 => exact (Kd.R_reads' HO923.out).2.1); rintro e w23 ⟨rfl, hb⟩; refine ⟨_, rfl, ?_⟩; have n0_ := Aside0.mk (Kd.R_below (by exact Kd.xR HO915.out) hb); have n1_ := Aside0.mk (Kd.R_below (by exact Kd.xR HO919.out) hb); have n2_ := Aside0.mk (Kd.R_below (by exact Kd.xR HO923.out) hb); have n3_ := Aside0.mk (below_step (by exact bw HB.out) hb); clear HO915; clear HO919; clear HO923; clear HB; have HO915 := n0_; have HO919 := n1_; have HO923 := n2_; have HB := n3_; clear n0_ n1_ n2_ n3_; (try clear hb); (try clear hb2); (try clear hk); (try clear hi)))
   (try simp only [Act.put, List.setIfInBounds_toArray, List.set_cons_zero, List.set_cons_succ])
   have H := HC20.out
   clear HC20
   by_cases c24 : t924 = true
   ·
    subst c24
    have H1 : (some true) = some r := by rw [if_pos rfl] at H; exact H
    clear H
    have H := H1
    clear H1
    obtain rfl := Option.some.inj H
    go_wp2
    go_ret
    exact ⟨by first | rfl | (simp [errW_none, errW_some] <;> rfl) | (simp [*, errW_none, errW_some] <;> rfl), by exact bw HB.out⟩
   ·
    replace c24 := Bool.eq_false_iff.mpr c24
    subst c24
    have H1 : (some false) = some r := by rw [if_neg (show ¬ (false = true) by decide)] at H; exact H
    clear H
    have H := H1
    clear H1
    obtain rfl := Option.some.inj H
    go_wp2
    go_ret
    exact ⟨by first | rfl | (simp [errW_none, errW_some] <;> rfl) | (simp [*, errW_none, errW_some] <;> rfl), by exact bw HB.out⟩

/-- THE ONE PURE STATEMENT of laws_FnExactPoliciesValid: yours. -/
def laws_FnExactPoliciesValid.Pure : Prop := ∀ (l0 : List (S101)), (l0.length ≤ maxLen ∧ ∀ y0_ ∈ l0, Fine101 y0_) → ∃ k, laws_FnExactPoliciesValid.f k l0 = some true
theorem laws_FnExactPoliciesValid.walk (P : laws_FnExactPoliciesValid.Pure) (A0 : Option Addr) (c0 : Nat) (l0 : List (S101)) (w : World) (hr0 : Kd.C k101 w A0 l0.length l0) (hc0 : l0.length ≤ c0) (w0 : (l0.length ≤ maxLen ∧ ∀ y0_ ∈ l0, Fine101 y0_)) :
  Calls Try.prog 9 #[.slice A0 l0.length c0] w fun e w' => e = .returned (.bool true) ∧ Below w.heap.size w w' := by
 obtain ⟨k, h⟩ := P l0 w0
 refine (laws_FnExactPoliciesValid.calls k _ _ l0 true w hr0 hc0 h).mono ?_
 rintro e w' ⟨rfl, hd⟩
 exact ⟨rfl, hd⟩

end Go.Proofs.Ytongmkdapcgmfaa.P
