-- Written by a program of this session (wip/tool).
import Derived.Test.YtejfaenmgdkaoaaPx0
import Derived.Test.YtejfaenmgdkaoaaPx1
import Derived.Test.YtejfaenmgdkaoaaPx15
import Derived.Test.YtejfaenmgdkaoaaPx31
import Derived.Test.YtejfaenmgdkaoaaPx35
import Derived.Test.YtejfaenmgdkaoaaPx38
namespace Go.Proofs.Ytejfaenmgdkaoaa.P
open Go.RowKit Go.Proofs.YtejfaenmgdkaoaaW.PrintWords Go.Proofs.YtejfaenmgdkaoaaW.PrintLast Go.Proofs.YtejfaenmgdkaoaaW.PrintMore
attribute [local go_sem] max2_int min2_int max_two min_two max_three min_three max_four min_four   -- for this text's walks alone
set_option linter.unusedVariables false
set_option linter.unusedSimpArgs false

attribute [local go_sem high] eqA45
/-! ### laws_FnWorldValid: function 5 -/
mutual
def laws_FnWorldValid.j0 : Nat → List (S43) → Bool → Option (Bool)
 | 0, _, _ => none
 | k + 1, x3, x38 => if x38 = true then ((laws_alive.f k).bind fun t400 => (some t400)) else (laws_FnWorldValid.l0 k x3 (wrap64 ((x3.length : Int) - 1)) false 0)
def laws_FnWorldValid.l0 : Nat → List (S43) → Int → Bool → Int → Option (Bool)
 | 0, _, _, _, _ => none
 | k + 1, x3, x6, x7, x8 => if x8 < x6 then (laws_FnWorldValid.l1 k x3 x6 x7 x8 0) else (if x7 = true then (some true) else (if 0 ≤ x6 then (if x6 ≤ (x3.length : Int) then ((impl_WorldValid.f k (x3.take (x6 : Int).toNat)).bind fun t406 => (some t406)) else (none)) else (none)))
def laws_FnWorldValid.l1 : Nat → List (S43) → Int → Bool → Int → Int → Option (Bool)
 | 0, _, _, _, _, _ => none
 | k + 1, x3, x6, x7, x8, x9 => if 0 ≤ x8 then (if x8 < (x3.length : Int) then (if x9 < (((rd_T43 x3 x8).f1).length : Int) then (if x7 = true then (laws_FnWorldValid.l1 k x3 x6 true x8 (wrap64 (x9 + 1))) else (if 0 ≤ x9 then (laws_FnWorldValid.l1 k x3 x6 (((rd_T47 ((rd_T43 x3 x8).f1) x9).f1.f0) == 3 && (((rd_T47 ((rd_T43 x3 x8).f1) x9).f1.f1) == x6)) x8 (wrap64 (x9 + 1))) else (none))) else (laws_FnWorldValid.l0 k x3 x6 x7 (wrap64 (x8 + 1)))) else (none)) else (none)
end
def laws_FnWorldValid.f (k : Nat) (l0 : List Int) : Option (Bool) := if (l0.length : Int) > 1048576 then (some true) else ((spec_DrawWorldValid.f k l0).bind fun t382 => ((impl_WorldValid.f k t382).bind fun t385 => ((spec_WorldValid.f k t382).bind fun t386 => (if (t385 != t386) = true then (some false) else ((some (([] : List (S43)) : List (S43))).bind fun y387 => (if y387.length + t382.length < 2932031007402 then ((some (y387 ++ t382 : List (S43))).bind fun y390 => (if y390.length < 2932031007402 then ((impl_WorldValid.f k (y390 ++ [(⟨(([(t382.length : Int)] : List Int)), ([] : List (S47))⟩ : S43)])).bind fun t399 => (if t399 = true then (some false) else (if t385 = true then (laws_FnWorldValid.j0 k t382 ((t382.length : Int) == 0)) else (laws_FnWorldValid.j0 k t382 true)))) else (none))) else (none)))))))
theorem laws_FnWorldValid.mono_l : ∀ k, (∀ y0 y1, LeO (laws_FnWorldValid.j0 k y0 y1) (laws_FnWorldValid.j0 (k + 1) y0 y1)) ∧ (∀ y0 y1 y2 y3, LeO (laws_FnWorldValid.l0 k y0 y1 y2 y3) (laws_FnWorldValid.l0 (k + 1) y0 y1 y2 y3)) ∧ (∀ y0 y1 y2 y3 y4, LeO (laws_FnWorldValid.l1 k y0 y1 y2 y3 y4) (laws_FnWorldValid.l1 (k + 1) y0 y1 y2 y3 y4))
 | 0 => ⟨fun _ _ r h => by simp [laws_FnWorldValid.j0] at h, fun _ _ _ _ r h => by simp [laws_FnWorldValid.l0] at h, fun _ _ _ _ _ r h => by simp [laws_FnWorldValid.l1] at h⟩
 | k + 1 => by
  obtain ⟨ih0, ih1, ih2⟩ := laws_FnWorldValid.mono_l k
  refine ⟨?_, ?_, ?_⟩
  ·
   intro y0 y1
   unfold laws_FnWorldValid.j0
   repeat' first
   | (with_reducible exact ih0 _ _)
   | (with_reducible exact ih1 _ _ _ _)
   | (with_reducible exact ih2 _ _ _ _ _)
   | (with_reducible exact impl_WorldValid.mono _ _)
   | (with_reducible exact laws_alive.mono _)
   | (with_reducible exact spec_DrawWorldValid.mono _ _)
   | (with_reducible exact spec_WorldValid.mono _ _)
   | (with_reducible exact LeO.refl _)
   | (with_reducible exact LeO.none _)
   | (with_reducible refine LeO.ite ?_ ?_)
   | (with_reducible refine LeO.bind ?_ (fun _ => ?_))
   | exact ih0 _ _
   | exact ih1 _ _ _ _
   | exact ih2 _ _ _ _ _
   | exact impl_WorldValid.mono _ _
   | exact laws_alive.mono _
   | exact spec_DrawWorldValid.mono _ _
   | exact spec_WorldValid.mono _ _
   | exact LeO.none _
   | refine LeO.ite ?_ ?_
   | refine LeO.bind ?_ (fun _ => ?_)
  ·
   intro y0 y1 y2 y3
   unfold laws_FnWorldValid.l0
   repeat' first
   | (with_reducible exact ih0 _ _)
   | (with_reducible exact ih1 _ _ _ _)
   | (with_reducible exact ih2 _ _ _ _ _)
   | (with_reducible exact impl_WorldValid.mono _ _)
   | (with_reducible exact laws_alive.mono _)
   | (with_reducible exact spec_DrawWorldValid.mono _ _)
   | (with_reducible exact spec_WorldValid.mono _ _)
   | (with_reducible exact LeO.refl _)
   | (with_reducible exact LeO.none _)
   | (with_reducible refine LeO.ite ?_ ?_)
   | (with_reducible refine LeO.bind ?_ (fun _ => ?_))
   | exact ih0 _ _
   | exact ih1 _ _ _ _
   | exact ih2 _ _ _ _ _
   | exact impl_WorldValid.mono _ _
   | exact laws_alive.mono _
   | exact spec_DrawWorldValid.mono _ _
   | exact spec_WorldValid.mono _ _
   | exact LeO.none _
   | refine LeO.ite ?_ ?_
   | refine LeO.bind ?_ (fun _ => ?_)
  ·
   intro y0 y1 y2 y3 y4
   unfold laws_FnWorldValid.l1
   repeat' first
   | (with_reducible exact ih0 _ _)
   | (with_reducible exact ih1 _ _ _ _)
   | (with_reducible exact ih2 _ _ _ _ _)
   | (with_reducible exact impl_WorldValid.mono _ _)
   | (with_reducible exact laws_alive.mono _)
   | (with_reducible exact spec_DrawWorldValid.mono _ _)
   | (with_reducible exact spec_WorldValid.mono _ _)
   | (with_reducible exact LeO.refl _)
   | (with_reducible exact LeO.none _)
   | (with_reducible refine LeO.ite ?_ ?_)
   | (with_reducible refine LeO.bind ?_ (fun _ => ?_))
   | exact ih0 _ _
   | exact ih1 _ _ _ _
   | exact ih2 _ _ _ _ _
   | exact impl_WorldValid.mono _ _
   | exact laws_alive.mono _
   | exact spec_DrawWorldValid.mono _ _
   | exact spec_WorldValid.mono _ _
   | exact LeO.none _
   | refine LeO.ite ?_ ?_
   | refine LeO.bind ?_ (fun _ => ?_)
theorem laws_FnWorldValid.mono : ∀ a0 k, LeO (laws_FnWorldValid.f k a0) (laws_FnWorldValid.f (k + 1) a0) := by
 intro a0 k
 obtain ⟨ih0, ih1, ih2⟩ := laws_FnWorldValid.mono_l k
 unfold laws_FnWorldValid.f
 repeat' first
   | (with_reducible exact ih0 _ _)
   | (with_reducible exact ih1 _ _ _ _)
   | (with_reducible exact ih2 _ _ _ _ _)
   | (with_reducible exact impl_WorldValid.mono _ _)
   | (with_reducible exact laws_alive.mono _)
   | (with_reducible exact spec_DrawWorldValid.mono _ _)
   | (with_reducible exact spec_WorldValid.mono _ _)
   | (with_reducible exact LeO.refl _)
   | (with_reducible exact LeO.none _)
   | (with_reducible refine LeO.ite ?_ ?_)
   | (with_reducible refine LeO.bind ?_ (fun _ => ?_))
   | exact ih0 _ _
   | exact ih1 _ _ _ _
   | exact ih2 _ _ _ _ _
   | exact impl_WorldValid.mono _ _
   | exact laws_alive.mono _
   | exact spec_DrawWorldValid.mono _ _
   | exact spec_WorldValid.mono _ _
   | exact LeO.none _
   | refine LeO.ite ?_ ?_
   | refine LeO.bind ?_ (fun _ => ?_)
set_option maxHeartbeats 8000000 in
set_option maxRecDepth 100000 in
theorem laws_FnWorldValid.calls (k : Nat) (A0 : Option Addr) (c0 : Nat) (l0 : List Int) (r : Bool) (w : World) (hr0 : Kd.C (Kd.int .u8) w A0 l0.length l0) (hc0 : l0.length ≤ c0) (h : laws_FnWorldValid.f k l0 = some r) :
  Calls Try.prog 5 #[.slice A0 l0.length c0] w fun e w' => e = .returned (.bool r) ∧ Below w.heap.size w w' := by
 have hu43 := Try.underlying43
 have hu45 := Try.underlying45
 have HR0 := Aside0.mk hr0
 have HC0 := Aside0.mk hc0
 clear hr0 hc0
 have HB := Aside0.mk (Below.refl w.heap.size w)
 have H : (if (l0.length : Int) > 1048576 then (some true) else ((spec_DrawWorldValid.f k l0).bind fun t382 => ((impl_WorldValid.f k t382).bind fun t385 => ((spec_WorldValid.f k t382).bind fun t386 => (if (t385 != t386) = true then (some false) else ((some (([] : List (S43)) : List (S43))).bind fun y387 => (if y387.length + t382.length < 2932031007402 then ((some (y387 ++ t382 : List (S43))).bind fun y390 => (if y390.length < 2932031007402 then ((impl_WorldValid.f k (y390 ++ [(⟨(([(t382.length : Int)] : List Int)), ([] : List (S47))⟩ : S43)])).bind fun t399 => (if t399 = true then (some false) else (if t385 = true then (laws_FnWorldValid.j0 k t382 ((t382.length : Int) == 0)) else (laws_FnWorldValid.j0 k t382 true)))) else (none))) else (none)))))))) = some r := h
 clear h
 by_cases c2 : (l0.length : Int) > 1048576
 ·
  rw [if_pos c2] at H
  have c2b0 : decide (1048576 < (l0.length : Int)) = true := decide_eq_true c2
  have c2b1 : decide (1048576 < l0.length) = true := decide_eq_true (by omega)
  clear c2
  obtain rfl := Option.some.inj H
  go_enter Try.func5, Try.ntmps5
  go_wp2
  go_ret
  exact ⟨by first | rfl | (simp [errW_none, errW_some] <;> rfl) | (simp [*, errW_none, errW_some] <;> rfl), by exact bw HB.out⟩
 ·
  rw [if_neg c2] at H
  have c2b0 : decide (1048576 < (l0.length : Int)) = false := decide_eq_false c2
  have c2b1 : decide (1048576 < l0.length) = false := decide_eq_false (by omega)
  clear c2
  replace H := Option.bind_eq_some_iff.mp H
  obtain ⟨t382, A30, H⟩ := H
  replace H : ((impl_WorldValid.f k t382).bind fun t385 => ((spec_WorldValid.f k t382).bind fun t386 => (if (t385 != t386) = true then (some false) else ((some (([] : List (S43)) : List (S43))).bind fun y387 => (if y387.length + t382.length < 2932031007402 then ((some (y387 ++ t382 : List (S43))).bind fun y390 => (if y390.length < 2932031007402 then ((impl_WorldValid.f k (y390 ++ [(⟨(([(t382.length : Int)] : List Int)), ([] : List (S47))⟩ : S43)])).bind fun t399 => (if t399 = true then (some false) else (if t385 = true then (laws_FnWorldValid.j0 k t382 ((t382.length : Int) == 0)) else (laws_FnWorldValid.j0 k t382 true)))) else (none))) else (none)))))) = some r := H
  have A3 := Aside0.mk A30
  clear A30
  replace H := Option.bind_eq_some_iff.mp H
  obtain ⟨t385, A40, H⟩ := H
  replace H : ((spec_WorldValid.f k t382).bind fun t386 => (if (t385 != t386) = true then (some false) else ((some (([] : List (S43)) : List (S43))).bind fun y387 => (if y387.length + t382.length < 2932031007402 then ((some (y387 ++ t382 : List (S43))).bind fun y390 => (if y390.length < 2932031007402 then ((impl_WorldValid.f k (y390 ++ [(⟨(([(t382.length : Int)] : List Int)), ([] : List (S47))⟩ : S43)])).bind fun t399 => (if t399 = true then (some false) else (if t385 = true then (laws_FnWorldValid.j0 k t382 ((t382.length : Int) == 0)) else (laws_FnWorldValid.j0 k t382 true)))) else (none))) else (none))))) = some r := H
  have A4 := Aside0.mk A40
  clear A40
  replace H := Option.bind_eq_some_iff.mp H
  obtain ⟨t386, A50, H⟩ := H
  replace H : (if (t385 != t386) = true then (some false) else ((some (([] : List (S43)) : List (S43))).bind fun y387 => (if y387.length + t382.length < 2932031007402 then ((some (y387 ++ t382 : List (S43))).bind fun y390 => (if y390.length < 2932031007402 then ((impl_WorldValid.f k (y390 ++ [(⟨(([(t382.length : Int)] : List Int)), ([] : List (S47))⟩ : S43)])).bind fun t399 => (if t399 = true then (some false) else (if t385 = true then (laws_FnWorldValid.j0 k t382 ((t382.length : Int) == 0)) else (laws_FnWorldValid.j0 k t382 true)))) else (none))) else (none)))) = some r := H
  have A5 := Aside0.mk A50
  clear A50
  have HC6 := Aside0.mk H
  clear H
  go_enter Try.func5, Try.ntmps5
  go_upto_if 20 with (first | ((with_reducible refine gate_callee (f := 18) rfl ?_); refine gl (some 14) Try.func18 #[.slice A0 l0.length c0] ?_; (with_reducible refine (spec_DrawWorldValid.calls k _ _ l0 t382 _ ?side1 ?side2 A3.out).mono ?_); (case side1 => repeat (first | exact HR0.out | (with_reducible refine Kd.C_alloc ?_ _) | (with_reducible refine Kd.C_drewN ?_ _) | (with_reducible refine Kd.C_drew ?_))); (case side2 => exact HC0.out); rintro e w7 ⟨v383, rfl, ho0, hb⟩; refine ⟨_, rfl, ?_⟩; have n0_ := Aside0.mk (Kd.N_lower (Kd.N_mono (ok' := fun k_ => True) (Kd.S_N (Kd.S_bound ho0)) (fun k_ hk_ => trivial)) (below_size (by exact bw HB.out))); have n1_ := Aside0.mk (below_step (by exact bw HB.out) hb); clear HB; have HO384 := n0_; have HB := n1_; clear n0_ n1_; (try clear hb); (try clear hb2); (try clear hk); (try clear hi); (try clear ho0); obtain ⟨Ao8, co8, eo8⟩ := Kd.N_slice HO384.out; subst eo8) | ((with_reducible refine gate_callee (f := 19) rfl ?_); refine gl (some 16) Try.func19 #[.slice Ao8 t382.length co8] ?_; (with_reducible refine (impl_WorldValid.calls k _ _ t382 t385 _ ?side1 ?side2 A4.out).mono ?_); (case side1 => repeat (first | exact (Kd.N_reads' HO384.out).2.2 | (with_reducible refine Kd.C_alloc ?_ _) | (with_reducible refine Kd.C_drewN ?_ _) | (with_reducible refine Kd.C_drew ?_))); (case side2 => exact (Kd.N_reads' HO384.out).2.1); rintro e w9 ⟨rfl, hb⟩; refine ⟨_, rfl, ?_⟩; have n0_ := Aside0.mk (Kd.N_below (by exact Kd.xN HO384.out) hb); have n1_ := Aside0.mk (below_step (by exact bw HB.out) hb); clear HO384; clear HB; have HO384 := n0_; have HB := n1_; clear n0_ n1_; (try clear hb); (try clear hb2); (try clear hk); (try clear hi)) | ((with_reducible refine gate_callee (f := 20) rfl ?_); refine gl (some 19) Try.func20 #[.slice Ao8 t382.length co8] ?_; (with_reducible refine (spec_WorldValid.calls k _ _ t382 t386 _ ?side1 ?side2 A5.out).mono ?_); (case side1 => repeat (first | exact (Kd.N_reads' HO384.out).2.2 | (with_reducible refine Kd.C_alloc ?_ _) | (with_reducible refine Kd.C_drewN ?_ _) | (with_reducible refine Kd.C_drew ?_))); (case side2 => exact (Kd.N_reads' HO384.out).2.1); rintro e w10 ⟨rfl, hb⟩; refine ⟨_, rfl, ?_⟩; have n0_ := Aside0.mk (Kd.N_below (by exact Kd.xN HO384.out) hb); have n1_ := Aside0.mk (below_step (by exact bw HB.out) hb); clear HO384; clear HB; have HO384 := n0_; have HB := n1_; clear n0_ n1_; (try clear hb); (try clear hb2); (try clear hk); (try clear hi)))
  (try simp only [Act.put, List.setIfInBounds_toArray, List.set_cons_zero, List.set_cons_succ])
  have H := HC6.out
  clear HC6
  by_cases c11 : (t385 != t386) = true
  ·
   rw [if_pos c11] at H
   have c11b0 : (t385 != t386) = true := c11
   (try (have c11b1 : decide (t385 = t386) = false := by simpa using c11))
   (try (have c11b2 : (t385 == t386) = false := by simpa using c11))
   (try (have c11b3 : ¬ (t385 = t386) := by simpa using c11))
   clear c11
   (first | rw [c11b0] | (simp only [i64_w, i32_w]; rw [c11b0]) | rw [c11b2] | rw [c11b1] | skip)
   obtain rfl := Option.some.inj H
   go_wp2
   go_ret
   exact ⟨by first | rfl | (simp [errW_none, errW_some] <;> rfl) | (simp [*, errW_none, errW_some] <;> rfl), by exact bw HB.out⟩
  ·
   rw [if_neg c11] at H
   have c11b0 : (t385 != t386) = false := by simpa using c11
   (try (have c11b1 : decide (t385 = t386) = true := by simpa using c11))
   (try (have c11b2 : (t385 == t386) = true := by simpa using c11))
   clear c11
   (first | rw [c11b0] | (simp only [i64_w, i32_w]; rw [c11b0]) | rw [c11b2] | rw [c11b1] | skip)
   obtain ⟨y387, hy387⟩ : ∃ y_ : List (S43), y_ = (([] : List (S43))) := ⟨_, rfl⟩
   replace H : (if y387.length + t382.length < 2932031007402 then ((some (y387 ++ t382 : List (S43))).bind fun y390 => (if y390.length < 2932031007402 then ((impl_WorldValid.f k (y390 ++ [(⟨(([(t382.length : Int)] : List Int)), ([] : List (S47))⟩ : S43)])).bind fun t399 => (if t399 = true then (some false) else (if t385 = true then (laws_FnWorldValid.j0 k t382 ((t382.length : Int) == 0)) else (laws_FnWorldValid.j0 k t382 true)))) else (none))) else (none)) = some r := by first | (rw [hy387]; with_reducible exact H) | (have H2_ := (Option.bind_some _ _).symm.trans H; rw [hy387]; with_reducible exact H2_) | (have H2_ := (Option.bind_some _ _).symm.trans H; with_reducible exact H2_) | with_reducible exact H | (rw [hy387]; exact H) | exact H
   have Ny387 := Aside0.mk hy387
   clear hy387
   by_cases c12 : y387.length + t382.length < 2932031007402
   ·
    rw [if_pos c12] at H
    have LMc12 := Aside0.mk c12
    clear c12
    obtain ⟨y390, hy390⟩ : ∃ y_ : List (S43), y_ = (y387 ++ t382) := ⟨_, rfl⟩
    replace H : (if y390.length < 2932031007402 then ((impl_WorldValid.f k (y390 ++ [(⟨(([(t382.length : Int)] : List Int)), ([] : List (S47))⟩ : S43)])).bind fun t399 => (if t399 = true then (some false) else (if t385 = true then (laws_FnWorldValid.j0 k t382 ((t382.length : Int) == 0)) else (laws_FnWorldValid.j0 k t382 true)))) else (none)) = some r := by first | (rw [hy390]; with_reducible exact H) | (have H2_ := (Option.bind_some _ _).symm.trans H; rw [hy390]; with_reducible exact H2_) | (have H2_ := (Option.bind_some _ _).symm.trans H; with_reducible exact H2_) | with_reducible exact H | (rw [hy390]; exact H) | exact H
    have Ny390 := Aside0.mk hy390
    clear hy390
    obtain ⟨y393, hy393⟩ : ∃ y_ : List Int, y_ = (([(t382.length : Int)] : List Int)) := ⟨_, rfl⟩
    replace H : (if y390.length < 2932031007402 then ((impl_WorldValid.f k (y390 ++ [(⟨y393, ([] : List (S47))⟩ : S43)])).bind fun t399 => (if t399 = true then (some false) else (if t385 = true then (laws_FnWorldValid.j0 k t382 ((t382.length : Int) == 0)) else (laws_FnWorldValid.j0 k t382 true)))) else (none)) = some r := by first | (rw [hy393]; with_reducible exact H) | (have H2_ := (Option.bind_some _ _).symm.trans H; rw [hy393]; with_reducible exact H2_) | (have H2_ := (Option.bind_some _ _).symm.trans H; with_reducible exact H2_) | with_reducible exact H | (rw [hy393]; exact H) | exact H
    have Ny393 := Aside0.mk hy393
    clear hy393
    by_cases c13 : y390.length < 2932031007402
    ·
     rw [if_pos c13] at H
     have LMc13 := Aside0.mk c13
     clear c13
     obtain ⟨y396, hy396⟩ : ∃ y_ : List (S43), y_ = (y390 ++ [(⟨y393, ([] : List (S47))⟩ : S43)]) := ⟨_, rfl⟩
     replace H : ((impl_WorldValid.f k y396).bind fun t399 => (if t399 = true then (some false) else (if t385 = true then (laws_FnWorldValid.j0 k t382 ((t382.length : Int) == 0)) else (laws_FnWorldValid.j0 k t382 true)))) = some r := by first | (rw [hy396]; with_reducible exact H) | (have H2_ := (Option.bind_some _ _).symm.trans H; rw [hy396]; with_reducible exact H2_) | (have H2_ := (Option.bind_some _ _).symm.trans H; with_reducible exact H2_) | with_reducible exact H | (rw [hy396]; exact H) | exact H
     have Ny396 := Aside0.mk hy396
     clear hy396
     replace H := Option.bind_eq_some_iff.mp H
     obtain ⟨t399, A140, H⟩ := H
     replace H : (if t399 = true then (some false) else (if t385 = true then (laws_FnWorldValid.j0 k t382 ((t382.length : Int) == 0)) else (laws_FnWorldValid.j0 k t382 true))) = some r := H
     have A14 := Aside0.mk A140
     clear A140
     have HC15 := Aside0.mk H
     clear H
     go_upto_if 31 with (first | ((with_reducible refine gate_dst (N := 21) rfl ?_); (try (refine gate_guard (by rfl) ?_; dsimp only)); refine Kd.N_lit k43 _ 43 ?hg (N' := 21) ?hd (xs := ([] : List (S43))) (inner := []) (ok := (fun k_ => some k_ ≠ (.slice Ao8 t382.length co8 : Value).ownBlock)) (okp := (fun k_ => some k_ ≠ (.slice Ao8 t382.length co8 : Value).ownBlock)) ?hr ?hp (fun _ hk => hk) ((show ∀ k_, w10.heap.size ≤ k_ → (fun k_ => some k_ ≠ (.slice Ao8 t382.length co8 : Value).ownBlock) k_ from fun k_ hk => Kd.fresh' (Kd.N_lt (by exact Kd.xN HO384.out)) k_ hk) _ (Nat.le_refl _)) (Below.refl _ _) (Nat.le_refl _) (by simp) ?_; (case hd => rfl); (case hg => rfl); (case hr => first | (go_simp; done) | (go_simp; rfl)); (case hp => exact (Reps.none _ _)); intro v388 w16 ho17 hb hg_ hnew_; clear hg_ hnew_; (first | rw [← Ny387.out] at ho17 | (simp only [Int.reduceToNat] at ho17; rw [← Ny387.out] at ho17)); have n0_ := Aside0.mk (Kd.N_elder' (by exact Kd.xN HO384.out) (Kd.N_base ho17) hb); have n1_ := Aside0.mk (Kd.N_lower ho17 (below_size (by exact bw HB.out))); have n2_ := Aside0.mk (below_step (by exact bw HB.out) hb); clear HO384; clear HB; have HO384 := n0_; have HO389 := n1_; have HB := n2_; clear n0_ n1_ n2_; clear hb ho17) | ((with_reducible refine gate_builtin (b := .append) (xs := #[.tmp 21, .tmp 22]) rfl ?_); (try (refine gate_guard (by rfl) ?_; dsimp only)); at_builtin; refine Kd.N_append_rows k43 (w0 := w) w.heap.size rfl (.tmp 21) (.tmp 22) 37 43 (.agg #[(.slice none 0 0), (.slice none 0 0)]) 48 rfl Try.underlying37 info43 rfl (by decide) (by omega) v388 y387 t382 _ _ _ (fun _ => True) (fun k_ => ((fun _ => True)) k_ ∧ some k_ ≠ (v388 : Value).ownBlock) rfl rfl ?aO ?aR (fun _ hk => hk) ?aF ?aB ?aS ?aL ?_; (case aR => exact (by skip; exact Kd.N_F (Kd.N_mono (ok' := (fun k_ => ((fun _ => True)) k_ ∧ some k_ ≠ (v388 : Value).ownBlock)) (HO384.out) (fun k_ hk => ⟨trivial, hk.2⟩)))); (case aB => exact (by exact bw HB.out)); (case aF => exact (fun _ _ => trivial)); (case aO => exact (by (with_reducible repeat (first | apply Kd.N_alloc | apply Kd.N_drewN | apply Kd.N_drew)); exact Kd.N_mono HO389.out (fun _ hk => trivial))); (case aS => exact (below_size (by exact bw HB.out))); (case aL => have := LMc12.out; omega); intro v391 w18 ho hb hg hat; rw [← Ny390.out] at ho; have n0_ := Aside0.mk (Kd.N_afterv (ok := (fun _ => True)) (by exact Kd.xN HO384.out) hg hat); have n1_ := Aside0.mk (hb); have n2_ := Aside0.mk (ho); clear HO384; clear HB; clear HO389; have HO384 := n0_; have HB := n1_; have HO392 := n2_; clear n0_ n1_ n2_; clear ho hb hg hat) | ((with_reducible refine gate_dst (N := 26) rfl ?_); (try (refine gate_guard (by rfl) ?_; dsimp only)); refine Kd.R_lit (Kd.int .i64) _ 3 ?hg (N := 26) ?hd (xs := ([(t382.length : Int)] : List Int)) (inner := [.int .i64 (t382.length : Int)]) (ok := fun _ => True) (okp := fun _ => True) ?hr ?hp (fun _ hk => hk) trivial (Below.refl _ _) (Nat.le_refl _) (by simp) ?_; (case hd => rfl); (case hg => rfl); (case hr => first | (go_simp; done) | (go_simp; rfl)); (case hp => exact (Reps.one (show Kd.M (Kd.int .i64) _ _ _ (t382.length : Int) [.int .i64 (t382.length : Int)] from rfl) (Reps.none _ _))); intro v394 w19 ho20 hb hg_ hnew_; clear hg_ hnew_; (first | rw [← Ny393.out] at ho20 | (simp only [Int.reduceToNat] at ho20; rw [← Ny393.out] at ho20)); have n0_ := Aside0.mk (Kd.N_elder' (by exact Kd.xN HO384.out) (Kd.R_base ho20) hb); have n1_ := Aside0.mk (Kd.N_elder' (by exact Kd.xN HO392.out) (Kd.R_base ho20) hb); have n2_ := Aside0.mk (Kd.R_lower ho20 (below_size (by exact bw HB.out))); have n3_ := Aside0.mk (below_step (by exact bw HB.out) hb); clear HO384; clear HO392; clear HB; have HO384 := n0_; have HO392 := n1_; have HO395 := n2_; have HB := n3_; clear n0_ n1_ n2_ n3_; clear hb ho20; obtain ⟨Ao21, co21, eo21⟩ := Kd.R_slice HO395.out; subst eo21) | ((with_reducible refine gate_builtin (b := .append) (xs := #[.tmp 23, .tmp 28]) rfl ?_); (try (refine gate_guard (by rfl) ?_; dsimp only)); at_builtin; refine Kd.N_append k43 (w0 := w) w.heap.size rfl (.tmp 23) (.tmp 28) 37 43 (.agg #[(.slice none 0 0), (.slice none 0 0)]) 48 rfl Try.underlying37 info43 rfl (by decide) (by omega) v391 y390 (⟨y393, ([] : List (S47))⟩ : S43) [.slice Ao21 y393.length co21, .slice none 0 0] (fun _ => True) (fun k_ => ((fun _ => True)) k_ ∧ some k_ ≠ (v391 : Value).ownBlock) rfl rfl ?aP (fun _ hk => hk) ?aF ?aO ?aB ?aS ?aL ?_; (case aP => exact (k43_mkF _ _ (⟨y393, ([] : List (S47))⟩ : S43) (Kd.R_reads' (Kd.R_mono (ok' := (fun k_ => ((fun _ => True)) k_ ∧ some k_ ≠ (v391 : Value).ownBlock)) (Kd.R_apart' (HO395.out) (Kd.N_typed HO392.out) (by decide)) (fun k_ hk => ⟨trivial, hk.2⟩))).2.1 (Kd.R_F (Kd.R_mono (ok' := (fun k_ => ((fun _ => True)) k_ ∧ some k_ ≠ (v391 : Value).ownBlock)) (Kd.R_apart' (HO395.out) (Kd.N_typed HO392.out) (by decide)) (fun k_ hk => ⟨trivial, hk.2⟩))) (Nat.le_refl _) (Kd.F_nil _ _ _))); (case aB => exact (by exact bw HB.out)); (case aF => exact (fun _ _ => trivial)); (case aO => exact (by (with_reducible repeat (first | apply Kd.N_alloc | apply Kd.N_drewN | apply Kd.N_drew)); exact Kd.N_mono HO392.out (fun _ hk => trivial))); (case aS => exact (below_size (by exact bw HB.out))); (case aL => have := LMc13.out; omega); intro v397 w22 ho hb hg hat; rw [← Ny396.out] at ho; have n0_ := Aside0.mk (Kd.N_afterv (ok := (fun k_ => some k_ ≠ (.slice Ao21 y393.length co21 : Value).ownBlock)) (by (with_reducible repeat (first | apply Kd.N_alloc | apply Kd.N_drewN | apply Kd.N_drew)); exact Kd.N_mono HO384.out (fun _ hk => okp hk)) hg hat); have n1_ := Aside0.mk (hb); have n2_ := Aside0.mk (ho); clear HO384; clear HB; clear HO392; clear HO395; have HO384 := n0_; have HB := n1_; have HO398 := n2_; clear n0_ n1_ n2_; clear ho hb hg hat; obtain ⟨Ao23, co23, eo23⟩ := Kd.N_slice HO398.out; subst eo23) | ((with_reducible refine gate_callee (f := 19) rfl ?_); refine gl (some 31) Try.func19 #[.slice Ao23 y396.length co23] ?_; (with_reducible refine (impl_WorldValid.calls k _ _ y396 t399 _ ?side1 ?side2 A14.out).mono ?_); (case side1 => repeat (first | exact (Kd.N_reads' HO398.out).2.2 | (with_reducible refine Kd.C_alloc ?_ _) | (with_reducible refine Kd.C_drewN ?_ _) | (with_reducible refine Kd.C_drew ?_))); (case side2 => exact (Kd.N_reads' HO398.out).2.1); rintro e w24 ⟨rfl, hb⟩; refine ⟨_, rfl, ?_⟩; have n0_ := Aside0.mk (Kd.N_below (by exact Kd.xN HO384.out) hb); have n1_ := Aside0.mk (Kd.N_below (by exact Kd.xN HO398.out) hb); have n2_ := Aside0.mk (below_step (by exact bw HB.out) hb); clear HO384; clear HO398; clear HB; have HO384 := n0_; have HO398 := n1_; have HB := n2_; clear n0_ n1_ n2_; (try clear hb); (try clear hb2); (try clear hk); (try clear hi)))
     (try simp only [Act.put, List.setIfInBounds_toArray, List.set_cons_zero, List.set_cons_succ])
     have H := HC15.out
     clear HC15
     by_cases c25 : t399 = true
     ·
      subst c25
      have H1 : (some false) = some r := by rw [if_pos rfl] at H; exact H
      clear H
      have H := H1
      clear H1
      obtain rfl := Option.some.inj H
      go_wp2
      go_ret
      exact ⟨by first | rfl | (simp [errW_none, errW_some] <;> rfl) | (simp [*, errW_none, errW_some] <;> rfl), by exact bw HB.out⟩
     ·
      replace c25 := Bool.eq_false_iff.mpr c25
      subst c25
      have H1 : (if t385 = true then (laws_FnWorldValid.j0 k t382 ((t382.length : Int) == 0)) else (laws_FnWorldValid.j0 k t382 true)) = some r := by rw [if_neg (show ¬ (false = true) by decide)] at H; exact H
      clear H
      have H := H1
      clear H1
      have HC26 := Aside0.mk H
      clear H
      go_upto_region 10 with (fail)
      go_cut [38] (fun v38 wc => ∃ (kq : Nat) (x38_25 : Bool), v38 = .bool x38_25 ∧ Aside0 (laws_FnWorldValid.j0 kq t382 x38_25 = some r) ∧ Aside0 (kq ≤ k) ∧ Aside0 (Kd.N k43 43 wc w.heap.size (fun _ => True) (.slice Ao8 t382.length co8) t382) ∧ Aside0 (Below w.heap.size w wc))
      case first =>
       have H := HC26.out
       clear HC26
       by_cases c27 : t385 = true
       ·
        subst c27
        have H1 : (laws_FnWorldValid.j0 k t382 ((t382.length : Int) == 0)) = some r := by rw [if_pos rfl] at H; exact H
        clear H
        have H := H1
        clear H1
        have H' := Aside0.mk H
        clear H
        go_wp2
        go_meet
        case rel => exact ⟨_, (((t382.length : Int) == 0)), (by first | rfl | (simp; done) | (simp [*]; done)), H', ⟨by first | omega | exact Nat.le_refl _⟩, ⟨by (with_reducible repeat (first | apply Kd.N_alloc | apply Kd.N_drewN | apply Kd.N_drew)); exact Kd.N_mono HO384.out (fun _ hk => trivial)⟩, ⟨by exact bw HB.out⟩⟩
       ·
        replace c27 := Bool.eq_false_iff.mpr c27
        subst c27
        have H1 : (laws_FnWorldValid.j0 k t382 true) = some r := by rw [if_neg (show ¬ (false = true) by decide)] at H; exact H
        clear H
        have H := H1
        clear H1
        have H' := Aside0.mk H
        clear H
        go_wp2
        go_meet
        case rel => exact ⟨_, (true), (by first | rfl | (simp; done) | (simp [*]; done)), H', ⟨by first | omega | exact Nat.le_refl _⟩, ⟨by (with_reducible repeat (first | apply Kd.N_alloc | apply Kd.N_drewN | apply Kd.N_drew)); exact Kd.N_mono HO384.out (fun _ hk => trivial)⟩, ⟨by exact bw HB.out⟩⟩
      case rest =>
       clear HC26
       try clear c1
       try clear c2
       try clear c2b0
       try clear c2b1
       try clear p2
       try clear c5
       try clear c11
       try clear c11b0
       try clear c11b1
       try clear c11b2
       try clear c12
       try clear c13
       try clear c18
       try clear c19
       try clear c20
       try clear c25
       try clear c27
       obtain ⟨kq, x38_25, rfl, HA, HJ25, HO_3, HB⟩ := hcut
       cases kq with
       | zero => exact absurd HA.out (by simp [laws_FnWorldValid.j0])
       | succ kj25 =>
        have H := HA.out
        clear HA
        simp only [laws_FnWorldValid.j0] at H
        by_cases c28 : x38_25 = true
        ·
         subst c28
         have H1 : ((laws_alive.f kj25).bind fun t400 => (some t400)) = some r := by rw [if_pos rfl] at H; exact H
         clear H
         have H := H1
         clear H1
         replace H := Option.bind_eq_some_iff.mp H
         obtain ⟨t400, A290, H⟩ := H
         replace H : (some t400) = some r := H
         have A29 := Aside0.mk A290
         clear A290
         obtain rfl := Option.some.inj H
         go_wp2_with (first | ((with_reducible refine gate_callee (f := 14) rfl ?_); refine gl (some 39) Try.func14 #[] ?_; (with_reducible refine (laws_alive.calls kj25  t400 _ A29.out).mono ?_); rintro e w' ⟨rfl, ⟨nd, rfl⟩⟩; refine ⟨_, rfl, ?_⟩))
         go_ret
         exact ⟨by first | rfl | (simp [errW_none, errW_some] <;> rfl) | (simp [*, errW_none, errW_some] <;> rfl), by exact bw HB.out⟩
        ·
         replace c28 := Bool.eq_false_iff.mpr c28
         subst c28
         have H1 : (laws_FnWorldValid.l0 kj25 t382 (wrap64 ((t382.length : Int) - 1)) false 0) = some r := by rw [if_neg (show ¬ (false = true) by decide)] at H; exact H
         clear H
         have H := H1
         clear H1
         have H' := Aside0.mk H
         clear H
         go_wp2
         go_loopg [7, 8] kj25 (fun kq v7 v8 w' => ∃ (x7_2 : Bool) (x8_2 : Int), v7 = .bool x7_2 ∧ v8 = .int .i64 x8_2 ∧ Aside0 (laws_FnWorldValid.l0 kq t382 (wrap64 ((t382.length : Int) - 1)) x7_2 x8_2 = some r) ∧ Aside0 (kq ≤ kj25) ∧ Aside0 (Kd.N k43 43 w' w.heap.size (fun _ => True) (.slice Ao8 t382.length co8) t382) ∧ Aside0 (Below w.heap.size w w'))
         case atStart => exact ⟨(false), (0), (by first | rfl | (simp; done) | (simp [*]; done)), (by first | rfl | (simp; done) | (simp [*]; done)), H', ⟨Nat.le_refl _⟩, ⟨by exact Kd.xN HO_3.out⟩, ⟨by exact bw HB.out⟩⟩
         case round =>
          clear H'
          try clear c1
          try clear c2
          try clear c2b0
          try clear c2b1
          try clear p2
          try clear c5
          try clear p6
          try clear c11
          try clear c11b0
          try clear c11b1
          try clear c11b2
          try clear c12
          try clear c13
          try clear c14
          try clear c18
          try clear c19
          try clear c20
          try clear c25
          try clear c27
          try clear c28
          try clear p2
          obtain ⟨x7_2, x8_2, rfl, rfl, HA, HK2, HO_3, HB⟩ := hrel
          cases gk with
          | zero => exact absurd HA.out (by simp [laws_FnWorldValid.l0])
          | succ k2 =>
           have H := HA.out
           clear HA
           simp only [laws_FnWorldValid.l0] at H
           by_cases c30 : x8_2 < (wrap64 ((t382.length : Int) - 1))
           ·
            rw [if_pos c30] at H
            have c30b0 : decide (x8_2 < (wrap64 ((t382.length : Int) - 1))) = true := decide_eq_true c30
            clear c30
            have H' := Aside0.mk H
            clear H
            go_wp2
            go_loopg [7, 9] k2 (fun kq v7 v9 w' => ∃ (x7_3 : Bool) (x9_3 : Int), v7 = .bool x7_3 ∧ v9 = .int .i64 x9_3 ∧ Aside0 (laws_FnWorldValid.l1 kq t382 (wrap64 ((t382.length : Int) - 1)) x7_3 x8_2 x9_3 = some r) ∧ Aside0 (kq ≤ k2) ∧ Aside0 (Kd.N k43 43 w' w.heap.size (fun _ => True) (.slice Ao8 t382.length co8) t382) ∧ Aside0 (Below w.heap.size w w'))
            case atStart => exact ⟨(x7_2), (0), (by first | rfl | (simp; done) | (simp [*]; done)), (by first | rfl | (simp; done) | (simp [*]; done)), H', ⟨Nat.le_refl _⟩, ⟨by exact Kd.xN HO_3.out⟩, ⟨by exact bw HB.out⟩⟩
            case round =>
             clear H'
             try clear c1
             try clear c2
             try clear c2b0
             try clear c2b1
             try clear p2
             try clear c3
             try clear c5
             try clear p6
             try clear c11
             try clear c11b0
             try clear c11b1
             try clear c11b2
             try clear c12
             try clear c13
             try clear c14
             try clear c18
             try clear c19
             try clear c20
             try clear c25
             try clear c27
             try clear c28
             try clear c30
             try clear c30b0
             try clear p2
             try clear p6
             obtain ⟨x7_3, x9_3, rfl, rfl, HA, HK3, HO_3, HB⟩ := hrel
             cases gk with
             | zero => exact absurd HA.out (by simp [laws_FnWorldValid.l1])
             | succ k3 =>
              have H := HA.out
              clear HA
              simp only [laws_FnWorldValid.l1] at H
              by_cases c31 : 0 ≤ x8_2
              ·
               rw [if_pos c31] at H
               have c31b0 : decide (0 ≤ x8_2) = true := decide_eq_true c31
               clear c31
               by_cases c32 : x8_2 < (t382.length : Int)
               ·
                rw [if_pos c32] at H
                have c32b0 : decide (x8_2 < (t382.length : Int)) = true := decide_eq_true c32
                clear c32
                by_cases c33 : x9_3 < (((rd_T43 t382 x8_2).f1).length : Int)
                ·
                 rw [if_pos c33] at H
                 have c33b0 : decide (x9_3 < (((rd_T43 t382 x8_2).f1).length : Int)) = true := decide_eq_true c33
                 clear c33
                 by_cases c34 : x7_3 = true
                 ·
                  subst c34
                  have H1 : (laws_FnWorldValid.l1 k3 t382 (wrap64 ((t382.length : Int) - 1)) true x8_2 (wrap64 (x9_3 + 1))) = some r := by rw [if_pos rfl] at H; exact H
                  clear H
                  have H := H1
                  clear H1
                  have H' := Aside0.mk H
                  clear H
                  have p407 : 0 ≤ (x8_2 : Int) := of_decide_eq_true (by first | (with_reducible assumption) | assumption)
                  have q407 : x8_2 < (t382.length : Int) := of_decide_eq_true (by first | (with_reducible assumption) | assumption)
                  obtain ⟨ad407, A407_0, c407_0, A407_1, c407_1, e407, hx407_0, hx407_1, hl407_0, hi407_0, hl407_1, hi407_1⟩ := at_T43 (Kd.N_reads' HO_3.out).2.2 x8_2 p407 q407
                  cases e407
                  obtain ⟨ce407, hce407, hMe407, hcc407⟩ := Kd.N_get HO_3.out z43 x8_2 p407 (by first | exact q407 | exact of_decide_eq_true (by first | (with_reducible assumption) | assumption) | (have e_ := (Kd.N_reads' HO_3.out).1; omega))
                  obtain ⟨ua407_0, uc407_0, ua407_1, uc407_1, rfl, ul407_0, ge407_0, ul407_1, ge407_1⟩ := k43_openF hMe407
                  have hv407_0 := hcc407 0 _ rfl
                  rw [Nat.add_zero] at hv407_0
                  replace hv407_0 := Option.some.inj (hv407_0.symm.trans hx407_0)
                  injection hv407_0 with hva_ hvn_ hvc_
                  rw [hva_] at ge407_0
                  rw [hvc_] at ul407_0
                  have HL407_0 := Aside0.mk (show Kd.V (Kd.int .i64) 3 _ w.heap.size _ _ ((rd_T43 t382 x8_2).f0) from Kd.V_mk ul407_0 ge407_0)
                  clear hva_ hvn_ hvc_ ge407_0 ul407_0
                  have hv407_1 := hcc407 1 _ rfl
                  rw [add_field _ _ 1 (by omega)] at hv407_1
                  replace hv407_1 := Option.some.inj (hv407_1.symm.trans hx407_1)
                  injection hv407_1 with hva_ hvn_ hvc_
                  rw [hva_] at ge407_1
                  rw [hvc_] at ul407_1
                  have HL407_1 := Aside0.mk (show Kd.V k47 47 _ w.heap.size _ _ ((rd_T43 t382 x8_2).f1) from Kd.V_mk ul407_1 ge407_1)
                  clear hva_ hvn_ hvc_ ge407_1 ul407_1
                  clear hcc407 hce407
                  have HR407_0 := Aside0.mk hi407_0
                  have HC407_0 := Aside0.mk hl407_0
                  clear hi407_0 hl407_0
                  have HR407_1 := Aside0.mk hi407_1
                  have HC407_1 := Aside0.mk hl407_1
                  clear hi407_1 hl407_1
                  replace p407 := eq_true p407
                  replace q407 := eq_true q407
                  go_wp2
                  go_roundg k3
                  case measure => have := HJ25.out; have := HK2.out; have := HK3.out; omega
                  case rel => exact ⟨(true), (wrap64 (x9_3 + 1)), (by first | rfl | (simp; done) | (simp [*]; done)), (by first | rfl | (simp; done) | (simp [*]; done)), H', ⟨by have := HJ25.out; have := HK2.out; have := HK3.out; omega⟩, ⟨by exact Kd.xN HO_3.out⟩, ⟨by exact bw HB.out⟩⟩
                 ·
                  replace c34 := Bool.eq_false_iff.mpr c34
                  subst c34
                  have H1 : (if 0 ≤ x9_3 then (laws_FnWorldValid.l1 k3 t382 (wrap64 ((t382.length : Int) - 1)) (((rd_T47 ((rd_T43 t382 x8_2).f1) x9_3).f1.f0) == 3 && (((rd_T47 ((rd_T43 t382 x8_2).f1) x9_3).f1.f1) == (wrap64 ((t382.length : Int) - 1)))) x8_2 (wrap64 (x9_3 + 1))) else (none)) = some r := by rw [if_neg (show ¬ (false = true) by decide)] at H; exact H
                  clear H
                  have H := H1
                  clear H1
                  by_cases c35 : 0 ≤ x9_3
                  ·
                   rw [if_pos c35] at H
                   have c35b0 : decide (0 ≤ x9_3) = true := decide_eq_true c35
                   clear c35
                   have H' := Aside0.mk H
                   clear H
                   have p407 : 0 ≤ (x8_2 : Int) := of_decide_eq_true (by first | (with_reducible assumption) | assumption)
                   have q407 : x8_2 < (t382.length : Int) := of_decide_eq_true (by first | (with_reducible assumption) | assumption)
                   obtain ⟨ad407, A407_0, c407_0, A407_1, c407_1, e407, hx407_0, hx407_1, hl407_0, hi407_0, hl407_1, hi407_1⟩ := at_T43 (Kd.N_reads' HO_3.out).2.2 x8_2 p407 q407
                   cases e407
                   obtain ⟨ce407, hce407, hMe407, hcc407⟩ := Kd.N_get HO_3.out z43 x8_2 p407 (by first | exact q407 | exact of_decide_eq_true (by first | (with_reducible assumption) | assumption) | (have e_ := (Kd.N_reads' HO_3.out).1; omega))
                   obtain ⟨ua407_0, uc407_0, ua407_1, uc407_1, rfl, ul407_0, ge407_0, ul407_1, ge407_1⟩ := k43_openF hMe407
                   have hv407_0 := hcc407 0 _ rfl
                   rw [Nat.add_zero] at hv407_0
                   replace hv407_0 := Option.some.inj (hv407_0.symm.trans hx407_0)
                   injection hv407_0 with hva_ hvn_ hvc_
                   rw [hva_] at ge407_0
                   rw [hvc_] at ul407_0
                   have HL407_0 := Aside0.mk (show Kd.V (Kd.int .i64) 3 _ w.heap.size _ _ ((rd_T43 t382 x8_2).f0) from Kd.V_mk ul407_0 ge407_0)
                   clear hva_ hvn_ hvc_ ge407_0 ul407_0
                   have hv407_1 := hcc407 1 _ rfl
                   rw [add_field _ _ 1 (by omega)] at hv407_1
                   replace hv407_1 := Option.some.inj (hv407_1.symm.trans hx407_1)
                   injection hv407_1 with hva_ hvn_ hvc_
                   rw [hva_] at ge407_1
                   rw [hvc_] at ul407_1
                   have HL407_1 := Aside0.mk (show Kd.V k47 47 _ w.heap.size _ _ ((rd_T43 t382 x8_2).f1) from Kd.V_mk ul407_1 ge407_1)
                   clear hva_ hvn_ hvc_ ge407_1 ul407_1
                   clear hcc407 hce407
                   have HR407_0 := Aside0.mk hi407_0
                   have HC407_0 := Aside0.mk hl407_0
                   clear hi407_0 hl407_0
                   have HR407_1 := Aside0.mk hi407_1
                   have HC407_1 := Aside0.mk hl407_1
                   clear hi407_1 hl407_1
                   replace p407 := eq_true p407
                   replace q407 := eq_true q407
                   have p408 : 0 ≤ (x8_2 : Int) := of_decide_eq_true (by first | (with_reducible assumption) | assumption)
                   have q408 : x8_2 < (t382.length : Int) := of_decide_eq_true (by first | (with_reducible assumption) | assumption)
                   obtain ⟨ad408, A408_0, c408_0, A408_1, c408_1, e408, hx408_0, hx408_1, hl408_0, hi408_0, hl408_1, hi408_1⟩ := at_T43 (Kd.N_reads' HO_3.out).2.2 x8_2 p408 q408
                   obtain rfl : ad407 = ad408 := (by injection e408)
                   obtain ⟨ce408, hce408, hMe408, hcc408⟩ := Kd.N_get HO_3.out z43 x8_2 p408 (by first | exact q408 | exact of_decide_eq_true (by first | (with_reducible assumption) | assumption) | (have e_ := (Kd.N_reads' HO_3.out).1; omega))
                   obtain ⟨ua408_0, uc408_0, ua408_1, uc408_1, rfl, ul408_0, ge408_0, ul408_1, ge408_1⟩ := k43_openF hMe408
                   have hv408_0 := hcc408 0 _ rfl
                   rw [Nat.add_zero] at hv408_0
                   replace hv408_0 := Option.some.inj (hv408_0.symm.trans hx408_0)
                   injection hv408_0 with hva_ hvn_ hvc_
                   rw [hva_] at ge408_0
                   rw [hvc_] at ul408_0
                   have HL408_0 := Aside0.mk (show Kd.V (Kd.int .i64) 3 _ w.heap.size _ _ ((rd_T43 t382 x8_2).f0) from Kd.V_mk ul408_0 ge408_0)
                   clear hva_ hvn_ hvc_ ge408_0 ul408_0
                   have hv408_1 := hcc408 1 _ rfl
                   rw [add_field _ _ 1 (by omega)] at hv408_1
                   replace hv408_1 := Option.some.inj (hv408_1.symm.trans hx408_1)
                   injection hv408_1 with hva_ hvn_ hvc_
                   rw [hva_] at ge408_1
                   rw [hvc_] at ul408_1
                   have HL408_1 := Aside0.mk (show Kd.V k47 47 _ w.heap.size _ _ ((rd_T43 t382 x8_2).f1) from Kd.V_mk ul408_1 ge408_1)
                   clear hva_ hvn_ hvc_ ge408_1 ul408_1
                   clear hcc408 hce408
                   have HR408_0 := Aside0.mk hi408_0
                   have HC408_0 := Aside0.mk hl408_0
                   clear hi408_0 hl408_0
                   have HR408_1 := Aside0.mk hi408_1
                   have HC408_1 := Aside0.mk hl408_1
                   clear hi408_1 hl408_1
                   replace p408 := eq_true p408
                   replace q408 := eq_true q408
                   have ea_ := Option.some.inj (hx407_0.symm.trans hx408_0)
                   injection ea_ with ea_ en_ ec_
                   subst ea_
                   subst ec_
                   clear en_
                   have ea_ := Option.some.inj (hx407_1.symm.trans hx408_1)
                   injection ea_ with ea_ en_ ec_
                   subst ea_
                   subst ec_
                   clear en_
                   have p409 : 0 ≤ (x9_3 : Int) := of_decide_eq_true (by first | (with_reducible assumption) | assumption)
                   have q409 : x9_3 < (((rd_T43 t382 x8_2).f1).length : Int) := of_decide_eq_true (by first | (with_reducible assumption) | assumption)
                   obtain ⟨ad409, e409, hx409_0, hx409_1, hx409_2⟩ := at_T47 (by repeat (first | (with_reducible exact HR408_1.out) | (with_reducible refine Kd.C_alloc ?_ _) | (with_reducible refine Kd.C_drewN ?_ _) | (with_reducible refine Kd.C_drew ?_) | exact HR408_1.out)) x9_3 p409 q409
                   cases e409
                   replace p409 := eq_true p409
                   replace q409 := eq_true q409
                   go_wp2
                   go_roundg k3
                   case measure => have := HJ25.out; have := HK2.out; have := HK3.out; omega
                   case rel => exact ⟨((((rd_T47 ((rd_T43 t382 x8_2).f1) x9_3).f1.f0) == 3 && (((rd_T47 ((rd_T43 t382 x8_2).f1) x9_3).f1.f1) == (wrap64 ((t382.length : Int) - 1))))), (wrap64 (x9_3 + 1)), (by first | rfl | (simp; done) | (simp [*]; done)), (by first | rfl | (simp; done) | (simp [*]; done)), H', ⟨by have := HJ25.out; have := HK2.out; have := HK3.out; omega⟩, ⟨by exact Kd.xN HO_3.out⟩, ⟨by exact bw HB.out⟩⟩
                  ·
                   rw [if_neg c35] at H
                   exact absurd H (by simp)
                ·
                 rw [if_neg c33] at H
                 have c33b0 : decide (x9_3 < (((rd_T43 t382 x8_2).f1).length : Int)) = false := decide_eq_false c33
                 clear c33
                 have H' := Aside0.mk H
                 clear H
                 have p407 : 0 ≤ (x8_2 : Int) := of_decide_eq_true (by first | (with_reducible assumption) | assumption)
                 have q407 : x8_2 < (t382.length : Int) := of_decide_eq_true (by first | (with_reducible assumption) | assumption)
                 obtain ⟨ad407, A407_0, c407_0, A407_1, c407_1, e407, hx407_0, hx407_1, hl407_0, hi407_0, hl407_1, hi407_1⟩ := at_T43 (Kd.N_reads' HO_3.out).2.2 x8_2 p407 q407
                 cases e407
                 obtain ⟨ce407, hce407, hMe407, hcc407⟩ := Kd.N_get HO_3.out z43 x8_2 p407 (by first | exact q407 | exact of_decide_eq_true (by first | (with_reducible assumption) | assumption) | (have e_ := (Kd.N_reads' HO_3.out).1; omega))
                 obtain ⟨ua407_0, uc407_0, ua407_1, uc407_1, rfl, ul407_0, ge407_0, ul407_1, ge407_1⟩ := k43_openF hMe407
                 have hv407_0 := hcc407 0 _ rfl
                 rw [Nat.add_zero] at hv407_0
                 replace hv407_0 := Option.some.inj (hv407_0.symm.trans hx407_0)
                 injection hv407_0 with hva_ hvn_ hvc_
                 rw [hva_] at ge407_0
                 rw [hvc_] at ul407_0
                 have HL407_0 := Aside0.mk (show Kd.V (Kd.int .i64) 3 _ w.heap.size _ _ ((rd_T43 t382 x8_2).f0) from Kd.V_mk ul407_0 ge407_0)
                 clear hva_ hvn_ hvc_ ge407_0 ul407_0
                 have hv407_1 := hcc407 1 _ rfl
                 rw [add_field _ _ 1 (by omega)] at hv407_1
                 replace hv407_1 := Option.some.inj (hv407_1.symm.trans hx407_1)
                 injection hv407_1 with hva_ hvn_ hvc_
                 rw [hva_] at ge407_1
                 rw [hvc_] at ul407_1
                 have HL407_1 := Aside0.mk (show Kd.V k47 47 _ w.heap.size _ _ ((rd_T43 t382 x8_2).f1) from Kd.V_mk ul407_1 ge407_1)
                 clear hva_ hvn_ hvc_ ge407_1 ul407_1
                 clear hcc407 hce407
                 have HR407_0 := Aside0.mk hi407_0
                 have HC407_0 := Aside0.mk hl407_0
                 clear hi407_0 hl407_0
                 have HR407_1 := Aside0.mk hi407_1
                 have HC407_1 := Aside0.mk hl407_1
                 clear hi407_1 hl407_1
                 replace p407 := eq_true p407
                 replace q407 := eq_true q407
                 go_wp2
                 go_roundg k3
                 case measure => have := HJ25.out; have := HK2.out; have := HK3.out; omega
                 case rel => exact ⟨(x7_3), (wrap64 (x8_2 + 1)), (by first | rfl | (simp; done) | (simp [*]; done)), (by first | rfl | (simp; done) | (simp [*]; done)), H', ⟨by have := HJ25.out; have := HK2.out; have := HK3.out; omega⟩, ⟨by exact Kd.xN HO_3.out⟩, ⟨by exact bw HB.out⟩⟩
               ·
                rw [if_neg c32] at H
                exact absurd H (by simp)
              ·
               rw [if_neg c31] at H
               exact absurd H (by simp)
           ·
            rw [if_neg c30] at H
            have c30b0 : decide (x8_2 < (wrap64 ((t382.length : Int) - 1))) = false := decide_eq_false c30
            clear c30
            by_cases c36 : x7_2 = true
            ·
             subst c36
             have H1 : (some true) = some r := by rw [if_pos rfl] at H; exact H
             clear H
             have H := H1
             clear H1
             obtain rfl := Option.some.inj H
             go_wp2
             go_ret
             exact ⟨by first | rfl | (simp [errW_none, errW_some] <;> rfl) | (simp [*, errW_none, errW_some] <;> rfl), by exact bw HB.out⟩
            ·
             replace c36 := Bool.eq_false_iff.mpr c36
             subst c36
             have H1 : (if 0 ≤ (wrap64 ((t382.length : Int) - 1)) then (if (wrap64 ((t382.length : Int) - 1)) ≤ (t382.length : Int) then ((impl_WorldValid.f k2 (t382.take ((wrap64 ((t382.length : Int) - 1)) : Int).toNat)).bind fun t406 => (some t406)) else (none)) else (none)) = some r := by rw [if_neg (show ¬ (false = true) by decide)] at H; exact H
             clear H
             have H := H1
             clear H1
             obtain ⟨ji37, hji37⟩ : ∃ j_ : Int, (wrap64 ((t382.length : Int) - 1)) = j_ := ⟨_, rfl⟩
             replace H : (if 0 ≤ (ji37) then (if (ji37) ≤ (t382.length : Int) then ((impl_WorldValid.f k2 (t382.take ((ji37) : Int).toNat)).bind fun t406 => (some t406)) else (none)) else (none)) = some r := by first | (rw [hji37] at H; exact H) | (simp only [hji37] at H ⊢; exact H)
             (try rw [hji37] at c30b0)
             have hji37w : (IntKind.i64.wrap ((t382.length : Int) - 1)) = ji37 := (i64_w _).trans hji37
             by_cases c38 : 0 ≤ (ji37)
             ·
              rw [if_pos c38] at H
              have c38b0 := eq_true c38
              have c38b1 : decide (0 ≤ (ji37)) = true := decide_eq_true c38
              clear c38
              by_cases c39 : (ji37) ≤ (t382.length : Int)
              ·
               rw [if_pos c39] at H
               have c39b0 := eq_true c39
               have c39b1 : decide ((ji37) ≤ (t382.length : Int)) = true := decide_eq_true c39
               clear c39
               obtain ⟨y401, hy401⟩ : ∃ y_ : List (S43), y_ = (t382.take ((ji37) : Int).toNat) := ⟨_, rfl⟩
               replace H : ((impl_WorldValid.f k2 y401).bind fun t406 => (some t406)) = some r := by first | (rw [hy401]; with_reducible exact H) | (have H2_ := (Option.bind_some _ _).symm.trans H; rw [hy401]; with_reducible exact H2_) | (have H2_ := (Option.bind_some _ _).symm.trans H; with_reducible exact H2_) | with_reducible exact H | (rw [hy401]; exact H) | exact H
               have Ny401 := Aside0.mk hy401
               clear hy401
               replace H := Option.bind_eq_some_iff.mp H
               obtain ⟨t406, A400, H⟩ := H
               replace H : (some t406) = some r := H
               have A40 := Aside0.mk A400
               clear A400
               obtain rfl := Option.some.inj H
               have q41 : ((ji37) : Int) ≤ ((t382.length : Int) : Int) := of_decide_eq_true (by first | (with_reducible assumption) | assumption)
               obtain ⟨i041, hi041, _, hsz41, _⟩ := info_parts info43
               have hroom41 : t382.length ≤ co8 := (Kd.N_reads' HO_3.out).2.1
               have hC41 : Kd.F k43 _ _ Ao8 t382.length t382 := (Kd.V_at (base := w.heap.size) (Kd.N_V HO_3.out)).2.2
               have hcut41 := cut_to (P := Try.prog) 37 43 .i64 Try.underlying37 hi041 Ao8 t382.length co8 (ji37) (of_decide_eq_true (by first | (with_reducible assumption) | assumption)) q41 hroom41
               have hr41 := Kd.F_take (m := ((ji37) : Int).toNat) hC41 (by omega)
               have hy41 : y401.length = ((ji37) : Int).toNat := (by rw [Ny401.out, List.length_take]; omega)
               rw [← Ny401.out] at hr41
               rw [← hy41] at hcut41
               have HO405 := Aside0.mk (show Kd.V k43 43 _ w.heap.size _ (.slice Ao8 y401.length co8) y401 from Kd.V_mk (by omega) hr41)
               have HC405 := Aside0.mk (show y401.length ≤ co8 from by omega)
               clear hr41 hC41 hroom41 hi041 hsz41
               have KY41 := Aside0.mk hy41
               clear hy41
               replace q41 := eq_true q41
               go_wp2_with (first | (go_at_call 19; (with_reducible refine (impl_WorldValid.calls k2 _ _ y401 t406 _ ?side1 ?side2 A40.out).mono ?_); (case side1 => repeat (first | exact (Kd.V_reads' HO405.out).2.2 | (with_reducible refine Kd.C_alloc ?_ _) | (with_reducible refine Kd.C_drewN ?_ _) | (with_reducible refine Kd.C_drew ?_))); (case side2 => exact (Kd.V_reads' HO405.out).2.1); rintro e w42 ⟨rfl, hb⟩; have n0_ := Aside0.mk (Kd.N_below (by exact Kd.xN HO_3.out) hb); have n1_ := Aside0.mk (Kd.V_below (by exact Kd.xV HO405.out) hb); have n2_ := Aside0.mk (below_step (by exact bw HB.out) hb); clear HO_3; clear HO405; clear HB; have HO_3 := n0_; have HO405 := n1_; have HB := n2_; clear n0_ n1_ n2_; (try clear hb); (try clear hb2); (try clear hk); (try clear hi)))
               go_ret
               exact ⟨by first | rfl | (simp [errW_none, errW_some] <;> rfl) | (simp only [← hji37]; first | rfl | (simp [errW_none, errW_some] <;> rfl)) | (simp [*, errW_none, errW_some] <;> rfl), by exact bw HB.out⟩
              ·
               rw [if_neg c39] at H
               exact absurd H (by simp)
             ·
              rw [if_neg c38] at H
              exact absurd H (by simp)
    ·
     rw [if_neg c13] at H
     exact absurd H (by simp)
   ·
    rw [if_neg c12] at H
    exact absurd H (by simp)

/-- THE ONE PURE STATEMENT of laws_FnWorldValid: yours. -/
def laws_FnWorldValid.Pure : Prop := ∀ (l0 : List Int), l0.length ≤ maxLen → l0.length * 1 ≤ 140737488351232 → (∀ x ∈ l0, (Lit.int .u8 x).wf = true) → ∃ k, laws_FnWorldValid.f k l0 = some true
theorem laws_FnWorldValid.walk (P : laws_FnWorldValid.Pure) (a0 : Option Addr) (len0 cap0 : Nat) (z0 : List Int) (w : World) (w0 : (a0 = none ∧ len0 = 0 ∧ cap0 = 0 ∧ z0 = []) ∨ ∃ x, a0 = some x ∧ len0 ≤ cap0 ∧ cap0 ≤ maxLen ∧ z0.length = cap0 ∧ (∀ i, i < z0.length → w.cell? (x.add i) = some (.int .u8 (z0.getD i 0))) ∧ ∀ n ∈ z0, (Lit.int .u8 n).wf = true) (y0 : len0 * 1 ≤ 140737488351232) :
  Calls Try.prog 5 #[.slice a0 len0 cap0] w fun e w' => e = .returned (.bool true) ∧ Below w.heap.size w w' := by
 obtain ⟨l0, rfl, hr0, hm0, hw0, hc0⟩ := ReadsInt.ofRowC w0
 obtain ⟨k, h⟩ := P l0 hm0 y0 hw0
 refine (laws_FnWorldValid.calls k _ _ l0 true w (Kd.C_of_reads (d := (0 : Int)) (h1 := fun _ => rfl) hr0) hc0 h).mono ?_
 rintro e w' ⟨rfl, hd⟩
 exact ⟨rfl, hd⟩

end Go.Proofs.Ytejfaenmgdkaoaa.P
