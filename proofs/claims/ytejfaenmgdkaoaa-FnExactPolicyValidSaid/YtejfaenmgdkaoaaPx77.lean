-- Written by a program of this session (wip/tool).
import Derived.Test.YtejfaenmgdkaoaaPx0
import Derived.Test.YtejfaenmgdkaoaaPx72
import Derived.Test.YtejfaenmgdkaoaaPx73
import Derived.Test.YtejfaenmgdkaoaaPx74
import Derived.Test.YtejfaenmgdkaoaaPx75
import Derived.Test.YtejfaenmgdkaoaaPx76
namespace Go.Proofs.Ytejfaenmgdkaoaa.P
open Go.RowKit Go.Proofs.YtejfaenmgdkaoaaW.PrintWords Go.Proofs.YtejfaenmgdkaoaaW.PrintLast Go.Proofs.YtejfaenmgdkaoaaW.PrintMore
attribute [local go_sem] max2_int min2_int max_two min_two max_three min_three max_four min_four   -- for this text's walks alone
set_option linter.unusedVariables false
set_option linter.unusedSimpArgs false

/-! ### laws_FnExactPolicyValid: function 9 -/
def laws_FnExactPolicyValid.f (k : Nat) (a0_0 : ByteArray) (a0_1 : Bool) (a0_2 : Int) (a0_3 : Int) (a0_4 : Int) (a0_5 : Int) (a0_6 : Int) (a0_7 : ByteArray) (l0_8 : List (S50)) : Option (Bool) := (laws_szPolicy.f k a0_0 a0_1 a0_2 a0_3 a0_4 a0_5 a0_6 a0_7 l0_8 1048576).bind fun t633 => (if t633 < 0 then (some true) else ((laws_toPolicy.f k a0_0 a0_1 a0_2 a0_3 a0_4 a0_5 a0_6 a0_7 l0_8).bind fun bt634 => ((spec_PolicyValid.f k bt634.1 bt634.2.1 bt634.2.2.1 bt634.2.2.2.1 bt634.2.2.2.2.1 bt634.2.2.2.2.2.1 bt634.2.2.2.2.2.2.1 bt634.2.2.2.2.2.2.2.1 bt634.2.2.2.2.2.2.2.2).bind fun t645 => ((laws_toPolicy.f k a0_0 a0_1 a0_2 a0_3 a0_4 a0_5 a0_6 a0_7 l0_8).bind fun bt646 => ((impl_PolicyValid.f k bt646.1 bt646.2.1 bt646.2.2.1 bt646.2.2.2.1 bt646.2.2.2.2.1 bt646.2.2.2.2.2.1 bt646.2.2.2.2.2.2.1 bt646.2.2.2.2.2.2.2.1 bt646.2.2.2.2.2.2.2.2).bind fun t658 => (if (t658 != t645) = true then (some false) else ((laws_toPolicy.f k a0_0 a0_1 a0_2 a0_3 a0_4 a0_5 a0_6 a0_7 l0_8).bind fun bt659 => ((laws_eqPolicy.f k bt646.1 bt646.2.1 bt646.2.2.1 bt646.2.2.2.1 bt646.2.2.2.2.1 bt646.2.2.2.2.2.1 bt646.2.2.2.2.2.2.1 bt646.2.2.2.2.2.2.2.1 bt646.2.2.2.2.2.2.2.2 bt659.1 bt659.2.1 bt659.2.2.1 bt659.2.2.2.1 bt659.2.2.2.2.1 bt659.2.2.2.2.2.1 bt659.2.2.2.2.2.2.1 bt659.2.2.2.2.2.2.2.1 bt659.2.2.2.2.2.2.2.2).bind fun t670 => (if t670 = true then (some true) else (some false))))))))))
theorem laws_FnExactPolicyValid.mono : ∀ a0 a1 a2 a3 a4 a5 a6 a7 a8 k, LeO (laws_FnExactPolicyValid.f k a0 a1 a2 a3 a4 a5 a6 a7 a8) (laws_FnExactPolicyValid.f (k + 1) a0 a1 a2 a3 a4 a5 a6 a7 a8) := by
 intro a0 a1 a2 a3 a4 a5 a6 a7 a8 k
 unfold laws_FnExactPolicyValid.f
 repeat' first
   | (with_reducible exact impl_PolicyValid.mono _ _ _ _ _ _ _ _ _ _)
   | (with_reducible exact laws_eqPolicy.mono _ _ _ _ _ _ _ _ _ _ _ _ _ _ _ _ _ _ _)
   | (with_reducible exact laws_szPolicy.mono _ _ _ _ _ _ _ _ _ _ _)
   | (with_reducible exact laws_toPolicy.mono _ _ _ _ _ _ _ _ _ _)
   | (with_reducible exact spec_PolicyValid.mono _ _ _ _ _ _ _ _ _ _)
   | (with_reducible exact LeO.refl _)
   | (with_reducible exact LeO.none _)
   | (with_reducible refine LeO.ite ?_ ?_)
   | (with_reducible refine LeO.bind ?_ (fun _ => ?_))
   | exact impl_PolicyValid.mono _ _ _ _ _ _ _ _ _ _
   | exact laws_eqPolicy.mono _ _ _ _ _ _ _ _ _ _ _ _ _ _ _ _ _ _ _
   | exact laws_szPolicy.mono _ _ _ _ _ _ _ _ _ _ _
   | exact laws_toPolicy.mono _ _ _ _ _ _ _ _ _ _
   | exact spec_PolicyValid.mono _ _ _ _ _ _ _ _ _ _
   | exact LeO.none _
   | refine LeO.ite ?_ ?_
   | refine LeO.bind ?_ (fun _ => ?_)
set_option maxHeartbeats 8000000 in
set_option maxRecDepth 100000 in
theorem laws_FnExactPolicyValid.calls (k : Nat) (a0_0 : ByteArray) (a0_1 : Bool) (a0_2 : Int) (a0_3 : Int) (a0_4 : Int) (a0_5 : Int) (a0_6 : Int) (a0_7 : ByteArray) (A0_8 : Option Addr) (c0_8 : Nat) (l0_8 : List (S50)) (r : Bool) (w : World) (hr0_8 : Kd.C k50 w A0_8 l0_8.length l0_8) (hc0_8 : l0_8.length ≤ c0_8) (h : laws_FnExactPolicyValid.f k a0_0 a0_1 a0_2 a0_3 a0_4 a0_5 a0_6 a0_7 l0_8 = some r) :
  Calls Try.prog 9 #[.agg #[.string a0_0, .bool a0_1, .int .i64 a0_2, .int .i64 a0_3, .int .i64 a0_4, .int .i64 a0_5, .int .i64 a0_6, .string a0_7, .slice A0_8 l0_8.length c0_8]] w fun e w' => e = .returned (.bool r) ∧ Below w.heap.size w w' := by
 have hu68 := Try.underlying68
 have hu72 := Try.underlying72
 have HR0_8 := Aside0.mk hr0_8
 have HC0_8 := Aside0.mk hc0_8
 clear hr0_8 hc0_8
 have HB := Aside0.mk (Below.refl w.heap.size w)
 have H : ((laws_szPolicy.f k a0_0 a0_1 a0_2 a0_3 a0_4 a0_5 a0_6 a0_7 l0_8 1048576).bind fun t633 => (if t633 < 0 then (some true) else ((laws_toPolicy.f k a0_0 a0_1 a0_2 a0_3 a0_4 a0_5 a0_6 a0_7 l0_8).bind fun bt634 => ((spec_PolicyValid.f k bt634.1 bt634.2.1 bt634.2.2.1 bt634.2.2.2.1 bt634.2.2.2.2.1 bt634.2.2.2.2.2.1 bt634.2.2.2.2.2.2.1 bt634.2.2.2.2.2.2.2.1 bt634.2.2.2.2.2.2.2.2).bind fun t645 => ((laws_toPolicy.f k a0_0 a0_1 a0_2 a0_3 a0_4 a0_5 a0_6 a0_7 l0_8).bind fun bt646 => ((impl_PolicyValid.f k bt646.1 bt646.2.1 bt646.2.2.1 bt646.2.2.2.1 bt646.2.2.2.2.1 bt646.2.2.2.2.2.1 bt646.2.2.2.2.2.2.1 bt646.2.2.2.2.2.2.2.1 bt646.2.2.2.2.2.2.2.2).bind fun t658 => (if (t658 != t645) = true then (some false) else ((laws_toPolicy.f k a0_0 a0_1 a0_2 a0_3 a0_4 a0_5 a0_6 a0_7 l0_8).bind fun bt659 => ((laws_eqPolicy.f k bt646.1 bt646.2.1 bt646.2.2.1 bt646.2.2.2.1 bt646.2.2.2.2.1 bt646.2.2.2.2.2.1 bt646.2.2.2.2.2.2.1 bt646.2.2.2.2.2.2.2.1 bt646.2.2.2.2.2.2.2.2 bt659.1 bt659.2.1 bt659.2.2.1 bt659.2.2.2.1 bt659.2.2.2.2.1 bt659.2.2.2.2.2.1 bt659.2.2.2.2.2.2.1 bt659.2.2.2.2.2.2.2.1 bt659.2.2.2.2.2.2.2.2).bind fun t670 => (if t670 = true then (some true) else (some false))))))))))) = some r := h
 clear h
 replace H := Option.bind_eq_some_iff.mp H
 obtain ⟨t633, A20, H⟩ := H
 replace H : (if t633 < 0 then (some true) else ((laws_toPolicy.f k a0_0 a0_1 a0_2 a0_3 a0_4 a0_5 a0_6 a0_7 l0_8).bind fun bt634 => ((spec_PolicyValid.f k bt634.1 bt634.2.1 bt634.2.2.1 bt634.2.2.2.1 bt634.2.2.2.2.1 bt634.2.2.2.2.2.1 bt634.2.2.2.2.2.2.1 bt634.2.2.2.2.2.2.2.1 bt634.2.2.2.2.2.2.2.2).bind fun t645 => ((laws_toPolicy.f k a0_0 a0_1 a0_2 a0_3 a0_4 a0_5 a0_6 a0_7 l0_8).bind fun bt646 => ((impl_PolicyValid.f k bt646.1 bt646.2.1 bt646.2.2.1 bt646.2.2.2.1 bt646.2.2.2.2.1 bt646.2.2.2.2.2.1 bt646.2.2.2.2.2.2.1 bt646.2.2.2.2.2.2.2.1 bt646.2.2.2.2.2.2.2.2).bind fun t658 => (if (t658 != t645) = true then (some false) else ((laws_toPolicy.f k a0_0 a0_1 a0_2 a0_3 a0_4 a0_5 a0_6 a0_7 l0_8).bind fun bt659 => ((laws_eqPolicy.f k bt646.1 bt646.2.1 bt646.2.2.1 bt646.2.2.2.1 bt646.2.2.2.2.1 bt646.2.2.2.2.2.1 bt646.2.2.2.2.2.2.1 bt646.2.2.2.2.2.2.2.1 bt646.2.2.2.2.2.2.2.2 bt659.1 bt659.2.1 bt659.2.2.1 bt659.2.2.2.1 bt659.2.2.2.2.1 bt659.2.2.2.2.2.1 bt659.2.2.2.2.2.2.1 bt659.2.2.2.2.2.2.2.1 bt659.2.2.2.2.2.2.2.2).bind fun t670 => (if t670 = true then (some true) else (some false)))))))))) = some r := H
 have A2 := Aside0.mk A20
 clear A20
 have HC3 := Aside0.mk H
 clear H
 go_enter Try.func9, Try.ntmps9
 go_upto_if 11 with (first | ((with_reducible refine gate_dst (N := 1) rfl ?_); refine box_event ?hg (N := 1) ?hd (cs := #[.string a0_0, .bool a0_1, .int .i64 a0_2, .int .i64 a0_3, .int .i64 a0_4, .int .i64 a0_5, .int .i64 a0_6, .string a0_7, .slice A0_8 l0_8.length c0_8]) (t := 68) ?hr ?_; (case hd => rfl); (case hg => rfl); (case hr => first | (go_simp; done) | (go_simp; rfl)); intro gb632 hg w4 hbox hb; have n0_ := Aside0.mk (below_step (by exact bw HB.out) hb); have n1_ := Aside0.mk (hbox); have n2_ := Aside0.mk ((by rw [hg]; exact (below_size (by exact bw HB.out)) : w.heap.size ≤ gb632)); have n3_ := Aside0.mk ((by rw [hg]; exact (below_size (by exact bw HB.out)) : w.heap.size ≤ gb632)); clear HB; have HB := n0_; have BK632 := n1_; have GW632 := n2_; have GE632 := n3_; clear n0_ n1_ n2_ n3_; clear hb hbox hg; have hcz5_0 : w4.cell? ⟨gb632, 0, none⟩ = some (.string a0_0) := (blk_cell BK632.out 0).trans rfl; have hcz5_1 : w4.cell? ⟨gb632, 1, none⟩ = some (.bool a0_1) := (blk_cell BK632.out 1).trans rfl; have hcz5_2 : w4.cell? ⟨gb632, 2, none⟩ = some (.int .i64 a0_2) := (blk_cell BK632.out 2).trans rfl; have hcz5_3 : w4.cell? ⟨gb632, 3, none⟩ = some (.int .i64 a0_3) := (blk_cell BK632.out 3).trans rfl; have hcz5_4 : w4.cell? ⟨gb632, 4, none⟩ = some (.int .i64 a0_4) := (blk_cell BK632.out 4).trans rfl; have hcz5_5 : w4.cell? ⟨gb632, 5, none⟩ = some (.int .i64 a0_5) := (blk_cell BK632.out 5).trans rfl; have hcz5_6 : w4.cell? ⟨gb632, 6, none⟩ = some (.int .i64 a0_6) := (blk_cell BK632.out 6).trans rfl; have hcz5_7 : w4.cell? ⟨gb632, 7, none⟩ = some (.string a0_7) := (blk_cell BK632.out 7).trans rfl; have hcz5_8 : w4.cell? ⟨gb632, 8, none⟩ = some (.slice A0_8 l0_8.length c0_8) := (blk_cell BK632.out 8).trans rfl; have hfz5_0 := blk_frozen BK632.out 0; have hfz5_1 := blk_frozen BK632.out 1; have hfz5_2 := blk_frozen BK632.out 2; have hfz5_3 := blk_frozen BK632.out 3; have hfz5_4 := blk_frozen BK632.out 4; have hfz5_5 := blk_frozen BK632.out 5; have hfz5_6 := blk_frozen BK632.out 6; have hfz5_7 := blk_frozen BK632.out 7; have hfz5_8 := blk_frozen BK632.out 8) | ((with_reducible refine gate_callee (f := 32) rfl ?_); refine gl (some 9) Try.func32 #[.agg #[.string a0_0, .bool a0_1, .int .i64 a0_2, .int .i64 a0_3, .int .i64 a0_4, .int .i64 a0_5, .int .i64 a0_6, .string a0_7, .slice A0_8 l0_8.length c0_8], .int .i64 1048576] ?_; (with_reducible refine (laws_szPolicy.calls k a0_0 a0_1 a0_2 a0_3 a0_4 a0_5 a0_6 a0_7 _ _ l0_8 1048576 t633 _ ?side1 ?side2 A2.out).mono ?_); (case side1 => repeat (first | exact (Kd.C_below HR0_8.out HB.out) | (with_reducible refine Kd.C_alloc ?_ _) | (with_reducible refine Kd.C_drewN ?_ _) | (with_reducible refine Kd.C_drew ?_))); (case side2 => exact HC0_8.out); rintro e w6 ⟨rfl, hb⟩; refine ⟨_, rfl, ?_⟩; have n0_ := Aside0.mk (blk_below (g := gb632) (o := .cells #[.string a0_0, .bool a0_1, .int .i64 a0_2, .int .i64 a0_3, .int .i64 a0_4, .int .i64 a0_5, .int .i64 a0_6, .string a0_7, .slice A0_8 l0_8.length c0_8] 68 (0, 0)) (by exact bk BK632.out) hb); have n1_ := Aside0.mk (below_step (by exact bw HB.out) hb); clear BK632; clear HB; have BK632 := n0_; have HB := n1_; clear n0_ n1_; (try clear hb); (try clear hb2); (try clear hk); (try clear hi)))
 (try simp only [Act.put, List.setIfInBounds_toArray, List.set_cons_zero, List.set_cons_succ])
 have H := HC3.out
 clear HC3
 by_cases c7 : t633 < 0
 ·
  rw [if_pos c7] at H
  have c7b0 : decide (t633 < 0) = true := decide_eq_true c7
  clear c7
  (first | rw [c7b0] | (simp only [i64_w, i32_w]; rw [c7b0]) | rw [c7b2] | rw [c7b1] | skip)
  obtain rfl := Option.some.inj H
  go_wp2
  go_ret
  exact ⟨by first | rfl | (simp [errW_none, errW_some] <;> rfl) | (simp [*, errW_none, errW_some] <;> rfl), by exact bw HB.out⟩
 ·
  rw [if_neg c7] at H
  have c7b0 : decide (t633 < 0) = false := decide_eq_false c7
  clear c7
  (first | rw [c7b0] | (simp only [i64_w, i32_w]; rw [c7b0]) | rw [c7b2] | rw [c7b1] | skip)
  replace H := Option.bind_eq_some_iff.mp H
  obtain ⟨⟨t634, t635, t636, t637, t638, t639, t640, t641, t642⟩, A80, H⟩ := H
  replace H : ((spec_PolicyValid.f k t634 t635 t636 t637 t638 t639 t640 t641 t642).bind fun t645 => ((laws_toPolicy.f k a0_0 a0_1 a0_2 a0_3 a0_4 a0_5 a0_6 a0_7 l0_8).bind fun bt646 => ((impl_PolicyValid.f k bt646.1 bt646.2.1 bt646.2.2.1 bt646.2.2.2.1 bt646.2.2.2.2.1 bt646.2.2.2.2.2.1 bt646.2.2.2.2.2.2.1 bt646.2.2.2.2.2.2.2.1 bt646.2.2.2.2.2.2.2.2).bind fun t658 => (if (t658 != t645) = true then (some false) else ((laws_toPolicy.f k a0_0 a0_1 a0_2 a0_3 a0_4 a0_5 a0_6 a0_7 l0_8).bind fun bt659 => ((laws_eqPolicy.f k bt646.1 bt646.2.1 bt646.2.2.1 bt646.2.2.2.1 bt646.2.2.2.2.1 bt646.2.2.2.2.2.1 bt646.2.2.2.2.2.2.1 bt646.2.2.2.2.2.2.2.1 bt646.2.2.2.2.2.2.2.2 bt659.1 bt659.2.1 bt659.2.2.1 bt659.2.2.2.1 bt659.2.2.2.2.1 bt659.2.2.2.2.2.1 bt659.2.2.2.2.2.2.1 bt659.2.2.2.2.2.2.2.1 bt659.2.2.2.2.2.2.2.2).bind fun t670 => (if t670 = true then (some true) else (some false)))))))) = some r := H
  have A8 := Aside0.mk A80
  clear A80
  replace H := Option.bind_eq_some_iff.mp H
  obtain ⟨t645, A90, H⟩ := H
  replace H : ((laws_toPolicy.f k a0_0 a0_1 a0_2 a0_3 a0_4 a0_5 a0_6 a0_7 l0_8).bind fun bt646 => ((impl_PolicyValid.f k bt646.1 bt646.2.1 bt646.2.2.1 bt646.2.2.2.1 bt646.2.2.2.2.1 bt646.2.2.2.2.2.1 bt646.2.2.2.2.2.2.1 bt646.2.2.2.2.2.2.2.1 bt646.2.2.2.2.2.2.2.2).bind fun t658 => (if (t658 != t645) = true then (some false) else ((laws_toPolicy.f k a0_0 a0_1 a0_2 a0_3 a0_4 a0_5 a0_6 a0_7 l0_8).bind fun bt659 => ((laws_eqPolicy.f k bt646.1 bt646.2.1 bt646.2.2.1 bt646.2.2.2.1 bt646.2.2.2.2.1 bt646.2.2.2.2.2.1 bt646.2.2.2.2.2.2.1 bt646.2.2.2.2.2.2.2.1 bt646.2.2.2.2.2.2.2.2 bt659.1 bt659.2.1 bt659.2.2.1 bt659.2.2.2.1 bt659.2.2.2.2.1 bt659.2.2.2.2.2.1 bt659.2.2.2.2.2.2.1 bt659.2.2.2.2.2.2.2.1 bt659.2.2.2.2.2.2.2.2).bind fun t670 => (if t670 = true then (some true) else (some false))))))) = some r := H
  have A9 := Aside0.mk A90
  clear A90
  replace H := Option.bind_eq_some_iff.mp H
  obtain ⟨⟨t646, t647, t648, t649, t650, t651, t652, t653, t654⟩, A100, H⟩ := H
  replace H : ((impl_PolicyValid.f k t646 t647 t648 t649 t650 t651 t652 t653 t654).bind fun t658 => (if (t658 != t645) = true then (some false) else ((laws_toPolicy.f k a0_0 a0_1 a0_2 a0_3 a0_4 a0_5 a0_6 a0_7 l0_8).bind fun bt659 => ((laws_eqPolicy.f k t646 t647 t648 t649 t650 t651 t652 t653 t654 bt659.1 bt659.2.1 bt659.2.2.1 bt659.2.2.2.1 bt659.2.2.2.2.1 bt659.2.2.2.2.2.1 bt659.2.2.2.2.2.2.1 bt659.2.2.2.2.2.2.2.1 bt659.2.2.2.2.2.2.2.2).bind fun t670 => (if t670 = true then (some true) else (some false)))))) = some r := H
  have A10 := Aside0.mk A100
  clear A100
  replace H := Option.bind_eq_some_iff.mp H
  obtain ⟨t658, A110, H⟩ := H
  replace H : (if (t658 != t645) = true then (some false) else ((laws_toPolicy.f k a0_0 a0_1 a0_2 a0_3 a0_4 a0_5 a0_6 a0_7 l0_8).bind fun bt659 => ((laws_eqPolicy.f k t646 t647 t648 t649 t650 t651 t652 t653 t654 bt659.1 bt659.2.1 bt659.2.2.1 bt659.2.2.2.1 bt659.2.2.2.2.1 bt659.2.2.2.2.2.1 bt659.2.2.2.2.2.2.1 bt659.2.2.2.2.2.2.2.1 bt659.2.2.2.2.2.2.2.2).bind fun t670 => (if t670 = true then (some true) else (some false))))) = some r := H
  have A11 := Aside0.mk A110
  clear A110
  have HC12 := Aside0.mk H
  clear H
  have hcz13_0 : w6.cell? ⟨gb632, 0, none⟩ = some (.string a0_0) := (blk_cell BK632.out 0).trans rfl
  have hcz13_1 : w6.cell? ⟨gb632, 1, none⟩ = some (.bool a0_1) := (blk_cell BK632.out 1).trans rfl
  have hcz13_2 : w6.cell? ⟨gb632, 2, none⟩ = some (.int .i64 a0_2) := (blk_cell BK632.out 2).trans rfl
  have hcz13_3 : w6.cell? ⟨gb632, 3, none⟩ = some (.int .i64 a0_3) := (blk_cell BK632.out 3).trans rfl
  have hcz13_4 : w6.cell? ⟨gb632, 4, none⟩ = some (.int .i64 a0_4) := (blk_cell BK632.out 4).trans rfl
  have hcz13_5 : w6.cell? ⟨gb632, 5, none⟩ = some (.int .i64 a0_5) := (blk_cell BK632.out 5).trans rfl
  have hcz13_6 : w6.cell? ⟨gb632, 6, none⟩ = some (.int .i64 a0_6) := (blk_cell BK632.out 6).trans rfl
  have hcz13_7 : w6.cell? ⟨gb632, 7, none⟩ = some (.string a0_7) := (blk_cell BK632.out 7).trans rfl
  have hcz13_8 : w6.cell? ⟨gb632, 8, none⟩ = some (.slice A0_8 l0_8.length c0_8) := (blk_cell BK632.out 8).trans rfl
  have hfz13_0 := blk_frozen BK632.out 0
  have hfz13_1 := blk_frozen BK632.out 1
  have hfz13_2 := blk_frozen BK632.out 2
  have hfz13_3 := blk_frozen BK632.out 3
  have hfz13_4 := blk_frozen BK632.out 4
  have hfz13_5 := blk_frozen BK632.out 5
  have hfz13_6 := blk_frozen BK632.out 6
  have hfz13_7 := blk_frozen BK632.out 7
  have hfz13_8 := blk_frozen BK632.out 8
  go_upto_if 21 with (first | ((with_reducible refine gate_callee (f := 34) rfl ?_); refine gl (some 13) Try.func34 #[.agg #[.string a0_0, .bool a0_1, .int .i64 a0_2, .int .i64 a0_3, .int .i64 a0_4, .int .i64 a0_5, .int .i64 a0_6, .string a0_7, .slice A0_8 l0_8.length c0_8]] ?_; (with_reducible refine (laws_toPolicy.calls k a0_0 a0_1 a0_2 a0_3 a0_4 a0_5 a0_6 a0_7 _ _ l0_8 t634 t635 t636 t637 t638 t639 t640 t641 t642 _ ?side1 ?side2 A8.out).mono ?_); (case side1 => repeat (first | exact (Kd.C_below HR0_8.out HB.out) | (with_reducible refine Kd.C_alloc ?_ _) | (with_reducible refine Kd.C_drewN ?_ _) | (with_reducible refine Kd.C_drew ?_))); (case side2 => exact HC0_8.out); rintro e w14 ⟨v643, rfl, ho0, hb⟩; refine ⟨_, rfl, ?_⟩; have n0_ := Aside0.mk (Kd.R_lower ho0 (below_size (by exact bw HB.out))); have n1_ := Aside0.mk (blk_below (g := gb632) (o := .cells #[.string a0_0, .bool a0_1, .int .i64 a0_2, .int .i64 a0_3, .int .i64 a0_4, .int .i64 a0_5, .int .i64 a0_6, .string a0_7, .slice A0_8 l0_8.length c0_8] 68 (0, 0)) (by exact bk BK632.out) hb); have n2_ := Aside0.mk (below_step (by exact bw HB.out) hb); clear BK632; clear HB; have HO644 := n0_; have BK632 := n1_; have HB := n2_; clear n0_ n1_ n2_; (try clear hb); (try clear hb2); (try clear hk); (try clear hi); (try clear ho0); obtain ⟨Ao15, co15, eo15⟩ := Kd.R_slice HO644.out; subst eo15) | ((with_reducible refine gate_callee (f := 33) rfl ?_); refine gl (some 14) Try.func33 #[.agg #[.string t634, .bool t635, .int .i64 t636, .int .i64 t637, .int .i64 t638, .int .i64 t639, .int .i64 t640, .string t641, .slice Ao15 t642.length co15]] ?_; (with_reducible refine (spec_PolicyValid.calls k t634 t635 t636 t637 t638 t639 t640 t641 _ _ t642 t645 _ ?side1 ?side2 A9.out).mono ?_); (case side1 => repeat (first | exact (Kd.R_reads' HO644.out).2.2 | (with_reducible refine Kd.C_alloc ?_ _) | (with_reducible refine Kd.C_drewN ?_ _) | (with_reducible refine Kd.C_drew ?_))); (case side2 => exact (Kd.R_reads' HO644.out).2.1); rintro e w16 ⟨rfl, hb⟩; refine ⟨_, rfl, ?_⟩; have n0_ := Aside0.mk (Kd.R_below (by exact Kd.xR HO644.out) hb); have n1_ := Aside0.mk (blk_below (g := gb632) (o := .cells #[.string a0_0, .bool a0_1, .int .i64 a0_2, .int .i64 a0_3, .int .i64 a0_4, .int .i64 a0_5, .int .i64 a0_6, .string a0_7, .slice A0_8 l0_8.length c0_8] 68 (0, 0)) (by exact bk BK632.out) hb); have n2_ := Aside0.mk (below_step (by exact bw HB.out) hb); clear HO644; clear BK632; clear HB; have HO644 := n0_; have BK632 := n1_; have HB := n2_; clear n0_ n1_ n2_; (try clear hb); (try clear hb2); (try clear hk); (try clear hi); have hcz17_0 : w16.cell? ⟨gb632, 0, none⟩ = some (.string a0_0) := (blk_cell BK632.out 0).trans rfl; have hcz17_1 : w16.cell? ⟨gb632, 1, none⟩ = some (.bool a0_1) := (blk_cell BK632.out 1).trans rfl; have hcz17_2 : w16.cell? ⟨gb632, 2, none⟩ = some (.int .i64 a0_2) := (blk_cell BK632.out 2).trans rfl; have hcz17_3 : w16.cell? ⟨gb632, 3, none⟩ = some (.int .i64 a0_3) := (blk_cell BK632.out 3).trans rfl; have hcz17_4 : w16.cell? ⟨gb632, 4, none⟩ = some (.int .i64 a0_4) := (blk_cell BK632.out 4).trans rfl; have hcz17_5 : w16.cell? ⟨gb632, 5, none⟩ = some (.int .i64 a0_5) := (blk_cell BK632.out 5).trans rfl; have hcz17_6 : w16.cell? ⟨gb632, 6, none⟩ = some (.int .i64 a0_6) := (blk_cell BK632.out 6).trans rfl; have hcz17_7 : w16.cell? ⟨gb632, 7, none⟩ = some (.string a0_7) := (blk_cell BK632.out 7).trans rfl; have hcz17_8 : w16.cell? ⟨gb632, 8, none⟩ = some (.slice A0_8 l0_8.length c0_8) := (blk_cell BK632.out 8).trans rfl; have hfz17_0 := blk_frozen BK632.out 0; have hfz17_1 := blk_frozen BK632.out 1; have hfz17_2 := blk_frozen BK632.out 2; have hfz17_3 := blk_frozen BK632.out 3; have hfz17_4 := blk_frozen BK632.out 4; have hfz17_5 := blk_frozen BK632.out 5; have hfz17_6 := blk_frozen BK632.out 6; have hfz17_7 := blk_frozen BK632.out 7; have hfz17_8 := blk_frozen BK632.out 8) | ((with_reducible refine gate_callee (f := 34) rfl ?_); refine gl (some 16) Try.func34 #[.agg #[.string a0_0, .bool a0_1, .int .i64 a0_2, .int .i64 a0_3, .int .i64 a0_4, .int .i64 a0_5, .int .i64 a0_6, .string a0_7, .slice A0_8 l0_8.length c0_8]] ?_; (with_reducible refine (laws_toPolicy.calls k a0_0 a0_1 a0_2 a0_3 a0_4 a0_5 a0_6 a0_7 _ _ l0_8 t646 t647 t648 t649 t650 t651 t652 t653 t654 _ ?side1 ?side2 A10.out).mono ?_); (case side1 => repeat (first | exact (Kd.C_below HR0_8.out HB.out) | (with_reducible refine Kd.C_alloc ?_ _) | (with_reducible refine Kd.C_drewN ?_ _) | (with_reducible refine Kd.C_drew ?_))); (case side2 => exact HC0_8.out); rintro e w18 ⟨v655, rfl, ho0, hb⟩; refine ⟨_, rfl, ?_⟩; have n0_ := Aside0.mk (Kd.R_elder' (by exact Kd.xR HO644.out) (Kd.R_base ho0) hb); have n1_ := Aside0.mk (Kd.R_lower (Kd.R_new' ho0 (Kd.R_lt (by exact Kd.xR HO644.out))) (below_size (by exact bw HB.out))); have n2_ := Aside0.mk (blk_below (g := gb632) (o := .cells #[.string a0_0, .bool a0_1, .int .i64 a0_2, .int .i64 a0_3, .int .i64 a0_4, .int .i64 a0_5, .int .i64 a0_6, .string a0_7, .slice A0_8 l0_8.length c0_8] 68 (0, 0)) (by exact bk BK632.out) hb); have n3_ := Aside0.mk (below_step (by exact bw HB.out) hb); clear HO644; clear BK632; clear HB; have HO644 := n0_; have HO656 := n1_; have BK632 := n2_; have HB := n3_; clear n0_ n1_ n2_ n3_; (try clear hb); (try clear hb2); (try clear hk); (try clear hi); (try clear ho0)) | ((with_reducible refine gate_dst (N := 5) rfl ?_); refine box_event ?hg (N := 5) ?hd (cs := #[.string (⟨#[]⟩ : ByteArray), .bool false, .int .i64 0, .int .i64 0, .int .i64 0, .int .i64 0, .int .i64 0, .string (⟨#[]⟩ : ByteArray), .slice none 0 0]) (t := 72) ?hr ?_; (case hd => rfl); (case hg => rfl); (case hr => first | (go_simp; done) | (go_simp; rfl)); intro gb657 hg w19 hbox hb; have n0_ := Aside0.mk (Kd.R_below (by exact Kd.xR HO644.out) hb); have n1_ := Aside0.mk (Kd.R_below (by exact Kd.xR HO656.out) hb); have n2_ := Aside0.mk (blk_below (g := gb632) (o := .cells #[.string a0_0, .bool a0_1, .int .i64 a0_2, .int .i64 a0_3, .int .i64 a0_4, .int .i64 a0_5, .int .i64 a0_6, .string a0_7, .slice A0_8 l0_8.length c0_8] 68 (0, 0)) (by exact bk BK632.out) hb); have n3_ := Aside0.mk (below_step (by exact bw HB.out) hb); have n4_ := Aside0.mk (hbox); have n5_ := Aside0.mk ((by rw [hg]; exact (below_size (by exact bw HB.out)) : w.heap.size ≤ gb657)); have n6_ := Aside0.mk ((by rw [hg]; exact (below_size (by exact bw HB.out)) : w.heap.size ≤ gb657)); have n7_ := Aside0.mk ((by rw [hg]; exact Nat.ne_of_lt (blk_lt (g := gb632) (o := .cells #[.string a0_0, .bool a0_1, .int .i64 a0_2, .int .i64 a0_3, .int .i64 a0_4, .int .i64 a0_5, .int .i64 a0_6, .string a0_7, .slice A0_8 l0_8.length c0_8] 68 (0, 0)) (by exact bk BK632.out)) : gb632 ≠ gb657)); have n8_ := Aside0.mk ((by rw [hg]; exact Nat.ne_of_gt (blk_lt (g := gb632) (o := .cells #[.string a0_0, .bool a0_1, .int .i64 a0_2, .int .i64 a0_3, .int .i64 a0_4, .int .i64 a0_5, .int .i64 a0_6, .string a0_7, .slice A0_8 l0_8.length c0_8] 68 (0, 0)) (by exact bk BK632.out)) : gb657 ≠ gb632)); clear HO644; clear HO656; clear BK632; clear HB; have HO644 := n0_; have HO656 := n1_; have BK632 := n2_; have HB := n3_; have BK657 := n4_; have GW657 := n5_; have GE657 := n6_; have NB632_657 := n7_; have NB657_632 := n8_; clear n0_ n1_ n2_ n3_ n4_ n5_ n6_ n7_ n8_; clear hb hbox hg; have hnb20 := NB657_632.out; have hnc20 := NB632_657.out; have hcz21_0 : w19.cell? ⟨gb657, 0, none⟩ = some (.string (⟨#[]⟩ : ByteArray)) := (blk_cell BK657.out 0).trans rfl; have hcz21_1 : w19.cell? ⟨gb657, 1, none⟩ = some (.bool false) := (blk_cell BK657.out 1).trans rfl; have hcz21_2 : w19.cell? ⟨gb657, 2, none⟩ = some (.int .i64 0) := (blk_cell BK657.out 2).trans rfl; have hcz21_3 : w19.cell? ⟨gb657, 3, none⟩ = some (.int .i64 0) := (blk_cell BK657.out 3).trans rfl; have hcz21_4 : w19.cell? ⟨gb657, 4, none⟩ = some (.int .i64 0) := (blk_cell BK657.out 4).trans rfl; have hcz21_5 : w19.cell? ⟨gb657, 5, none⟩ = some (.int .i64 0) := (blk_cell BK657.out 5).trans rfl; have hcz21_6 : w19.cell? ⟨gb657, 6, none⟩ = some (.int .i64 0) := (blk_cell BK657.out 6).trans rfl; have hcz21_7 : w19.cell? ⟨gb657, 7, none⟩ = some (.string (⟨#[]⟩ : ByteArray)) := (blk_cell BK657.out 7).trans rfl; have hcz21_8 : w19.cell? ⟨gb657, 8, none⟩ = some (.slice none 0 0) := (blk_cell BK657.out 8).trans rfl; have hfz21_0 := blk_frozen BK657.out 0; have hfz21_1 := blk_frozen BK657.out 1; have hfz21_2 := blk_frozen BK657.out 2; have hfz21_3 := blk_frozen BK657.out 3; have hfz21_4 := blk_frozen BK657.out 4; have hfz21_5 := blk_frozen BK657.out 5; have hfz21_6 := blk_frozen BK657.out 6; have hfz21_7 := blk_frozen BK657.out 7; have hfz21_8 := blk_frozen BK657.out 8; obtain ⟨Ao22, co22, eo22⟩ := Kd.R_slice HO656.out; subst eo22) | ((with_reducible refine gate_callee (f := 35) rfl ?_); refine gl (some 18) Try.func35 #[.agg #[.string t646, .bool t647, .int .i64 t648, .int .i64 t649, .int .i64 t650, .int .i64 t651, .int .i64 t652, .string t653, .slice Ao22 t654.length co22]] ?_; (with_reducible refine (impl_PolicyValid.calls k t646 t647 t648 t649 t650 t651 t652 t653 _ _ t654 t658 _ ?side1 ?side2 A11.out).mono ?_); (case side1 => refine (Kd.R_reads' (e := 55) (base := w.heap.size) (ok := fun k_ => (True ∧ some k_ ≠ (.slice Ao15 t642.length co15 : Value).ownBlock)) (n := t654.length) (c := co22) ?_).2.2; exact (by (with_reducible repeat (first | apply Kd.R_alloc | apply Kd.R_drewN | apply Kd.R_drew)); exact (Kd.R_mono (Kd.R_far (p := ⟨gb657, 8, none⟩) (Kd.R_far (p := ⟨gb657, 7, none⟩) (Kd.R_far (p := ⟨gb657, 6, none⟩) (Kd.R_far (p := ⟨gb657, 5, none⟩) (Kd.R_far (p := ⟨gb657, 4, none⟩) (Kd.R_far (p := ⟨gb657, 3, none⟩) (Kd.R_far (p := ⟨gb657, 2, none⟩) (Kd.R_far (p := ⟨gb657, 1, none⟩) (Kd.R_far (p := ⟨gb657, 0, none⟩) (Kd.R_types HO656.out BK657.out (by decide)) (fun _ hk => hk.2) (.string t646)) (fun _ hk => hk.2) (.bool t647)) (fun _ hk => hk.2) (.int .i64 t648)) (fun _ hk => hk.2) (.int .i64 t649)) (fun _ hk => hk.2) (.int .i64 t650)) (fun _ hk => hk.2) (.int .i64 t651)) (fun _ hk => hk.2) (.int .i64 t652)) (fun _ hk => hk.2) (.string t653)) (fun _ hk => hk.2) (.slice Ao22 t654.length co22)) (fun _ h_ => h_.1)))); (case side2 => exact (Kd.R_reads' HO656.out).2.1); rintro e w23 ⟨rfl, hb⟩; refine ⟨_, rfl, ?_⟩; have n0_ := Aside0.mk (Kd.R_below (by (with_reducible repeat (first | apply Kd.R_alloc | apply Kd.R_drewN | apply Kd.R_drew)); exact (Kd.R_mono (Kd.R_far (p := ⟨gb657, 8, none⟩) (Kd.R_far (p := ⟨gb657, 7, none⟩) (Kd.R_far (p := ⟨gb657, 6, none⟩) (Kd.R_far (p := ⟨gb657, 5, none⟩) (Kd.R_far (p := ⟨gb657, 4, none⟩) (Kd.R_far (p := ⟨gb657, 3, none⟩) (Kd.R_far (p := ⟨gb657, 2, none⟩) (Kd.R_far (p := ⟨gb657, 1, none⟩) (Kd.R_far (p := ⟨gb657, 0, none⟩) (Kd.R_types HO644.out BK657.out (by decide)) (fun _ hk => hk.2) (.string t646)) (fun _ hk => hk.2) (.bool t647)) (fun _ hk => hk.2) (.int .i64 t648)) (fun _ hk => hk.2) (.int .i64 t649)) (fun _ hk => hk.2) (.int .i64 t650)) (fun _ hk => hk.2) (.int .i64 t651)) (fun _ hk => hk.2) (.int .i64 t652)) (fun _ hk => hk.2) (.string t653)) (fun _ hk => hk.2) (.slice Ao22 t654.length co22)) (fun _ h_ => h_.1))) hb); have n1_ := Aside0.mk (Kd.R_below (by (with_reducible repeat (first | apply Kd.R_alloc | apply Kd.R_drewN | apply Kd.R_drew)); exact (Kd.R_mono (Kd.R_far (p := ⟨gb657, 8, none⟩) (Kd.R_far (p := ⟨gb657, 7, none⟩) (Kd.R_far (p := ⟨gb657, 6, none⟩) (Kd.R_far (p := ⟨gb657, 5, none⟩) (Kd.R_far (p := ⟨gb657, 4, none⟩) (Kd.R_far (p := ⟨gb657, 3, none⟩) (Kd.R_far (p := ⟨gb657, 2, none⟩) (Kd.R_far (p := ⟨gb657, 1, none⟩) (Kd.R_far (p := ⟨gb657, 0, none⟩) (Kd.R_types HO656.out BK657.out (by decide)) (fun _ hk => hk.2) (.string t646)) (fun _ hk => hk.2) (.bool t647)) (fun _ hk => hk.2) (.int .i64 t648)) (fun _ hk => hk.2) (.int .i64 t649)) (fun _ hk => hk.2) (.int .i64 t650)) (fun _ hk => hk.2) (.int .i64 t651)) (fun _ hk => hk.2) (.int .i64 t652)) (fun _ hk => hk.2) (.string t653)) (fun _ hk => hk.2) (.slice Ao22 t654.length co22)) (fun _ h_ => h_.1))) hb); have n2_ := Aside0.mk (blk_below (g := gb632) (o := .cells #[.string a0_0, .bool a0_1, .int .i64 a0_2, .int .i64 a0_3, .int .i64 a0_4, .int .i64 a0_5, .int .i64 a0_6, .string a0_7, .slice A0_8 l0_8.length c0_8] 68 (0, 0)) (by (with_reducible repeat (first | refine blk_drewN ?_ _ | refine blk_drew ?_ | refine blk_alloc ?_ _)); refine blk_far ?_ NB632_657.out _; (with_reducible repeat (first | refine blk_drewN ?_ _ | refine blk_drew ?_ | refine blk_alloc ?_ _)); refine blk_far ?_ NB632_657.out _; (with_reducible repeat (first | refine blk_drewN ?_ _ | refine blk_drew ?_ | refine blk_alloc ?_ _)); refine blk_far ?_ NB632_657.out _; (with_reducible repeat (first | refine blk_drewN ?_ _ | refine blk_drew ?_ | refine blk_alloc ?_ _)); refine blk_far ?_ NB632_657.out _; (with_reducible repeat (first | refine blk_drewN ?_ _ | refine blk_drew ?_ | refine blk_alloc ?_ _)); refine blk_far ?_ NB632_657.out _; (with_reducible repeat (first | refine blk_drewN ?_ _ | refine blk_drew ?_ | refine blk_alloc ?_ _)); refine blk_far ?_ NB632_657.out _; (with_reducible repeat (first | refine blk_drewN ?_ _ | refine blk_drew ?_ | refine blk_alloc ?_ _)); refine blk_far ?_ NB632_657.out _; (with_reducible repeat (first | refine blk_drewN ?_ _ | refine blk_drew ?_ | refine blk_alloc ?_ _)); refine blk_far ?_ NB632_657.out _; (with_reducible repeat (first | refine blk_drewN ?_ _ | refine blk_drew ?_ | refine blk_alloc ?_ _)); refine blk_far ?_ NB632_657.out _; exact bk BK632.out) hb); have n3_ := Aside0.mk (blk_below (g := gb657) (o := .cells #[.string t646, .bool t647, .int .i64 t648, .int .i64 t649, .int .i64 t650, .int .i64 t651, .int .i64 t652, .string t653, .slice Ao22 t654.length co22] 72 (0, 0)) (by (with_reducible repeat (first | refine blk_drewN ?_ _ | refine blk_drew ?_ | refine blk_alloc ?_ _)); refine blk_put (cs := #[.string t646, .bool t647, .int .i64 t648, .int .i64 t649, .int .i64 t650, .int .i64 t651, .int .i64 t652, .string t653, .slice none 0 0]) ?_ 8 _ rfl; (with_reducible repeat (first | refine blk_drewN ?_ _ | refine blk_drew ?_ | refine blk_alloc ?_ _)); refine blk_put (cs := #[.string t646, .bool t647, .int .i64 t648, .int .i64 t649, .int .i64 t650, .int .i64 t651, .int .i64 t652, .string (⟨#[]⟩ : ByteArray), .slice none 0 0]) ?_ 7 _ rfl; (with_reducible repeat (first | refine blk_drewN ?_ _ | refine blk_drew ?_ | refine blk_alloc ?_ _)); refine blk_put (cs := #[.string t646, .bool t647, .int .i64 t648, .int .i64 t649, .int .i64 t650, .int .i64 t651, .int .i64 0, .string (⟨#[]⟩ : ByteArray), .slice none 0 0]) ?_ 6 _ rfl; (with_reducible repeat (first | refine blk_drewN ?_ _ | refine blk_drew ?_ | refine blk_alloc ?_ _)); refine blk_put (cs := #[.string t646, .bool t647, .int .i64 t648, .int .i64 t649, .int .i64 t650, .int .i64 0, .int .i64 0, .string (⟨#[]⟩ : ByteArray), .slice none 0 0]) ?_ 5 _ rfl; (with_reducible repeat (first | refine blk_drewN ?_ _ | refine blk_drew ?_ | refine blk_alloc ?_ _)); refine blk_put (cs := #[.string t646, .bool t647, .int .i64 t648, .int .i64 t649, .int .i64 0, .int .i64 0, .int .i64 0, .string (⟨#[]⟩ : ByteArray), .slice none 0 0]) ?_ 4 _ rfl; (with_reducible repeat (first | refine blk_drewN ?_ _ | refine blk_drew ?_ | refine blk_alloc ?_ _)); refine blk_put (cs := #[.string t646, .bool t647, .int .i64 t648, .int .i64 0, .int .i64 0, .int .i64 0, .int .i64 0, .string (⟨#[]⟩ : ByteArray), .slice none 0 0]) ?_ 3 _ rfl; (with_reducible repeat (first | refine blk_drewN ?_ _ | refine blk_drew ?_ | refine blk_alloc ?_ _)); refine blk_put (cs := #[.string t646, .bool t647, .int .i64 0, .int .i64 0, .int .i64 0, .int .i64 0, .int .i64 0, .string (⟨#[]⟩ : ByteArray), .slice none 0 0]) ?_ 2 _ rfl; (with_reducible repeat (first | refine blk_drewN ?_ _ | refine blk_drew ?_ | refine blk_alloc ?_ _)); refine blk_put (cs := #[.string t646, .bool false, .int .i64 0, .int .i64 0, .int .i64 0, .int .i64 0, .int .i64 0, .string (⟨#[]⟩ : ByteArray), .slice none 0 0]) ?_ 1 _ rfl; (with_reducible repeat (first | refine blk_drewN ?_ _ | refine blk_drew ?_ | refine blk_alloc ?_ _)); refine blk_put (cs := #[.string (⟨#[]⟩ : ByteArray), .bool false, .int .i64 0, .int .i64 0, .int .i64 0, .int .i64 0, .int .i64 0, .string (⟨#[]⟩ : ByteArray), .slice none 0 0]) ?_ 0 _ rfl; exact bk BK657.out) hb); have n4_ := Aside0.mk (below_step (by exact bw HB.out) hb); clear HO644; clear HO656; clear BK632; clear BK657; clear HB; have HO644 := n0_; have HO656 := n1_; have BK632 := n2_; have BK657 := n3_; have HB := n4_; clear n0_ n1_ n2_ n3_ n4_; (try clear hb); (try clear hb2); (try clear hk); (try clear hi)))
  (try simp only [Act.put, List.setIfInBounds_toArray, List.set_cons_zero, List.set_cons_succ])
  have H := HC12.out
  clear HC12
  by_cases c24 : (t658 != t645) = true
  ·
   rw [if_pos c24] at H
   have c24b0 : (t658 != t645) = true := c24
   (try (have c24b1 : decide (t658 = t645) = false := by simpa using c24))
   (try (have c24b2 : (t658 == t645) = false := by simpa using c24))
   (try (have c24b3 : ¬ (t658 = t645) := by simpa using c24))
   clear c24
   (first | rw [c24b0] | (simp only [i64_w, i32_w]; rw [c24b0]) | rw [c24b2] | rw [c24b1] | skip)
   obtain rfl := Option.some.inj H
   go_wp2
   go_ret
   exact ⟨by first | rfl | (simp [errW_none, errW_some] <;> rfl) | (simp [*, errW_none, errW_some] <;> rfl), by exact bw HB.out⟩
  ·
   rw [if_neg c24] at H
   have c24b0 : (t658 != t645) = false := by simpa using c24
   (try (have c24b1 : decide (t658 = t645) = true := by simpa using c24))
   (try (have c24b2 : (t658 == t645) = true := by simpa using c24))
   clear c24
   (first | rw [c24b0] | (simp only [i64_w, i32_w]; rw [c24b0]) | rw [c24b2] | rw [c24b1] | skip)
   replace H := Option.bind_eq_some_iff.mp H
   obtain ⟨⟨t659, t660, t661, t662, t663, t664, t665, t666, t667⟩, A250, H⟩ := H
   replace H : ((laws_eqPolicy.f k t646 t647 t648 t649 t650 t651 t652 t653 t654 t659 t660 t661 t662 t663 t664 t665 t666 t667).bind fun t670 => (if t670 = true then (some true) else (some false))) = some r := H
   have A25 := Aside0.mk A250
   clear A250
   replace H := Option.bind_eq_some_iff.mp H
   obtain ⟨t670, A260, H⟩ := H
   replace H : (if t670 = true then (some true) else (some false)) = some r := H
   have A26 := Aside0.mk A260
   clear A260
   have HC27 := Aside0.mk H
   clear H
   try go_wp2
   have n0_ := Aside0.mk (Kd.R_drew HO644.out)
   have n1_ := Aside0.mk (Kd.R_drew HO656.out)
   have n2_ := Aside0.mk (blk_drew BK632.out)
   have n3_ := Aside0.mk (blk_drew BK657.out)
   have n4_ := Aside0.mk (below_drew1 HB.out)
   clear HO644
   clear HO656
   clear BK632
   clear BK657
   clear HB
   have HO644 := n0_
   have HO656 := n1_
   have BK632 := n2_
   have BK657 := n3_
   have HB := n4_
   clear n0_ n1_ n2_ n3_ n4_
   refine start_ (n := 5) (S := fun w' => w'.cell? ⟨gb657, 0, none⟩ = some (.string t646) ∧ w'.cell? ⟨gb657, 1, none⟩ = some (.bool t647) ∧ w'.cell? ⟨gb657, 2, none⟩ = some (.int .i64 t648) ∧ w'.cell? ⟨gb657, 3, none⟩ = some (.int .i64 t649) ∧ w'.cell? ⟨gb657, 4, none⟩ = some (.int .i64 t650) ∧ w'.cell? ⟨gb657, 5, none⟩ = some (.int .i64 t651) ∧ w'.cell? ⟨gb657, 6, none⟩ = some (.int .i64 t652) ∧ w'.cell? ⟨gb657, 7, none⟩ = some (.string t653) ∧ w'.cell? ⟨gb657, 8, none⟩ = some (.slice Ao22 t654.length co22) ∧ w'.cell? ⟨gb632, 0, none⟩ = some (.string a0_0) ∧ w'.cell? ⟨gb632, 1, none⟩ = some (.bool a0_1) ∧ w'.cell? ⟨gb632, 2, none⟩ = some (.int .i64 a0_2) ∧ w'.cell? ⟨gb632, 3, none⟩ = some (.int .i64 a0_3) ∧ w'.cell? ⟨gb632, 4, none⟩ = some (.int .i64 a0_4) ∧ w'.cell? ⟨gb632, 5, none⟩ = some (.int .i64 a0_5) ∧ w'.cell? ⟨gb632, 6, none⟩ = some (.int .i64 a0_6) ∧ w'.cell? ⟨gb632, 7, none⟩ = some (.string a0_7) ∧ w'.cell? ⟨gb632, 8, none⟩ = some (.slice A0_8 l0_8.length c0_8)) (ds := []) #[false, false, false, false, false] (by kernel_rfl) rfl rfl ⟨(blk_cell BK657.out 0).trans rfl, (blk_cell BK657.out 1).trans rfl, (blk_cell BK657.out 2).trans rfl, (blk_cell BK657.out 3).trans rfl, (blk_cell BK657.out 4).trans rfl, (blk_cell BK657.out 5).trans rfl, (blk_cell BK657.out 6).trans rfl, (blk_cell BK657.out 7).trans rfl, (blk_cell BK657.out 8).trans rfl, (blk_cell BK632.out 0).trans rfl, (blk_cell BK632.out 1).trans rfl, (blk_cell BK632.out 2).trans rfl, (blk_cell BK632.out 3).trans rfl, (blk_cell BK632.out 4).trans rfl, (blk_cell BK632.out 5).trans rfl, (blk_cell BK632.out 6).trans rfl, (blk_cell BK632.out 7).trans rfl, (blk_cell BK632.out 8).trans rfl⟩ (fun hHeld => ?_)
   generalize w23.drew = w28 at HO644 HO656 BK632 BK657 HB hHeld ⊢
   refine take_ (i := 0) (N := some 22) (v := ?_) (a' := ?_) #[true, false, false, false, false] rfl rfl (by kernel_rfl) (fun _ _ _ h => h) (Or.inl ⟨by rfl, ?_⟩) hHeld ?_ ?_
   rotate_left
   ·
    rintro w' ⟨s0, s1, s2, s3, s4, s5, s6, s7, s8, s9, s10, s11, s12, s13, s14, s15, s16, s17⟩
    go_simp
    with_reducible rfl
   rotate_left
   ·
    simp only [Act.put, List.setIfInBounds_toArray, List.set_cons_zero, List.set_cons_succ, i64_w, i32_w]
    rfl
   refine take_ (i := 1) (N := some 23) (v := ?_) (a' := ?_) #[true, true, false, false, false] rfl rfl (by kernel_rfl) (fun _ _ _ h => h) (Or.inl ⟨by rfl, ?_⟩) hHeld ?_ ?_
   rotate_left
   ·
    rintro w' ⟨s0, s1, s2, s3, s4, s5, s6, s7, s8, s9, s10, s11, s12, s13, s14, s15, s16, s17⟩
    go_simp
    with_reducible rfl
   rotate_left
   ·
    simp only [Act.put, List.setIfInBounds_toArray, List.set_cons_zero, List.set_cons_succ, i64_w, i32_w]
    rfl
   refine one_ (i := 2) (N := some 24) #[true, true, true, false, false] rfl rfl (by kernel_rfl) (by decide) (fun K hK => ?_)
   refine goes_ Try.func34 (by kernel_rfl) rfl #[.agg #[.string a0_0, .bool a0_1, .int .i64 a0_2, .int .i64 a0_3, .int .i64 a0_4, .int .i64 a0_5, .int .i64 a0_6, .string a0_7, .slice A0_8 l0_8.length c0_8]] (by rfl) rfl rfl (by (try simp only [List.map_toArray, List.map_cons, List.map_nil]); first | done | rfl | (simp only [List.length_drop, List.length_take]; rfl)) ?_
   with_reducible refine (laws_toPolicy.calls k a0_0 a0_1 a0_2 a0_3 a0_4 a0_5 a0_6 a0_7 _ _ l0_8 t659 t660 t661 t662 t663 t664 t665 t666 t667 _ ?side1 ?side2 A25.out).mono ?_
   (case side1 => repeat (first | exact (Kd.C_below HR0_8.out HB.out) | (with_reducible refine Kd.C_alloc ?_ _) | (with_reducible refine Kd.C_drewN ?_ _) | (with_reducible refine Kd.C_drew ?_)))
   (case side2 => exact HC0_8.out)
   rintro e w29 ⟨v668, rfl, ho0, hb⟩
   refine ⟨_, rfl, ?_⟩
   have n0_ := Aside0.mk (Kd.R_elder' (by exact Kd.xR HO644.out) (Kd.R_base ho0) hb)
   have n1_ := Aside0.mk (Kd.R_elder' (by exact Kd.xR HO656.out) (Kd.R_base ho0) hb)
   have n2_ := Aside0.mk (Kd.R_lower (Kd.R_new' (Kd.R_new' ho0 (Kd.R_lt (by exact Kd.xR HO644.out))) (Kd.R_lt (by exact Kd.xR HO656.out))) (below_size (by exact bw HB.out)))
   have n3_ := Aside0.mk (blk_below (g := gb632) (o := .cells #[.string a0_0, .bool a0_1, .int .i64 a0_2, .int .i64 a0_3, .int .i64 a0_4, .int .i64 a0_5, .int .i64 a0_6, .string a0_7, .slice A0_8 l0_8.length c0_8] 68 (0, 0)) (by exact bk BK632.out) hb)
   have n4_ := Aside0.mk (blk_below (g := gb657) (o := .cells #[.string t646, .bool t647, .int .i64 t648, .int .i64 t649, .int .i64 t650, .int .i64 t651, .int .i64 t652, .string t653, .slice Ao22 t654.length co22] 72 (0, 0)) (by exact bk BK657.out) hb)
   have n5_ := Aside0.mk (below_step (by exact bw HB.out) hb)
   clear HO644
   clear HO656
   clear BK632
   clear BK657
   clear HB
   have HO644 := n0_
   have HO656 := n1_
   have HO669 := n2_
   have BK632 := n3_
   have BK657 := n4_
   have HB := n5_
   clear n0_ n1_ n2_ n3_ n4_ n5_
   (try clear hb)
   (try clear hb2)
   (try clear hk)
   (try clear hi)
   (try clear ho0)
   obtain ⟨Ao30, co30, eo30⟩ := Kd.R_slice HO669.out
   (first | subst eo30 | (injection eo30 with f1_ f2_ f3_; have f4_ := f1_.symm; have f5_ := f3_.symm; clear f1_ f2_ f3_; subst f4_; subst f5_))
   refine hK.out _ _ ⟨(blk_cell BK657.out 0).trans rfl, (blk_cell BK657.out 1).trans rfl, (blk_cell BK657.out 2).trans rfl, (blk_cell BK657.out 3).trans rfl, (blk_cell BK657.out 4).trans rfl, (blk_cell BK657.out 5).trans rfl, (blk_cell BK657.out 6).trans rfl, (blk_cell BK657.out 7).trans rfl, (blk_cell BK657.out 8).trans rfl, (blk_cell BK632.out 0).trans rfl, (blk_cell BK632.out 1).trans rfl, (blk_cell BK632.out 2).trans rfl, (blk_cell BK632.out 3).trans rfl, (blk_cell BK632.out 4).trans rfl, (blk_cell BK632.out 5).trans rfl, (blk_cell BK632.out 6).trans rfl, (blk_cell BK632.out 7).trans rfl, (blk_cell BK632.out 8).trans rfl⟩ (fun hHeld => ?_)
   clear hK K
   refine norm_ (a' := ?_) ?_ ?_
   rotate_left
   ·
    show Act.put _ (some 24) _ = _
    simp only [Act.put, List.setIfInBounds_toArray, List.set_cons_zero, List.set_cons_succ, i64_w, i32_w]
    rfl
   refine one_ (i := 3) (N := some 25) #[true, true, true, true, false] rfl rfl (by kernel_rfl) (by decide) (fun K hK => ?_)
   refine goes_ Try.func36 (by kernel_rfl) rfl #[.agg #[.string t646, .bool t647, .int .i64 t648, .int .i64 t649, .int .i64 t650, .int .i64 t651, .int .i64 t652, .string t653, .slice Ao22 t654.length co22], .agg #[.string t659, .bool t660, .int .i64 t661, .int .i64 t662, .int .i64 t663, .int .i64 t664, .int .i64 t665, .string t666, .slice Ao30 t667.length co30]] (by rfl) rfl rfl (by (try simp only [List.map_toArray, List.map_cons, List.map_nil]); first | done | rfl | (simp only [List.length_drop, List.length_take]; rfl)) ?_
   with_reducible refine (laws_eqPolicy.calls k t646 t647 t648 t649 t650 t651 t652 t653 _ _ t654 t659 t660 t661 t662 t663 t664 t665 t666 _ _ t667 t670 _ ?side1 ?side2 ?side3 ?side4 A26.out).mono ?_
   (case side1 => repeat (first | exact (Kd.R_reads' HO656.out).2.2 | (with_reducible refine Kd.C_alloc ?_ _) | (with_reducible refine Kd.C_drewN ?_ _) | (with_reducible refine Kd.C_drew ?_)))
   (case side2 => exact (Kd.R_reads' HO656.out).2.1)
   (case side3 => repeat (first | exact (Kd.R_reads' HO669.out).2.2 | (with_reducible refine Kd.C_alloc ?_ _) | (with_reducible refine Kd.C_drewN ?_ _) | (with_reducible refine Kd.C_drew ?_)))
   (case side4 => exact (Kd.R_reads' HO669.out).2.1)
   rintro e w31 ⟨rfl, hb⟩
   refine ⟨_, rfl, ?_⟩
   have n0_ := Aside0.mk (Kd.R_below (by exact Kd.xR HO644.out) hb)
   have n1_ := Aside0.mk (Kd.R_below (by exact Kd.xR HO656.out) hb)
   have n2_ := Aside0.mk (Kd.R_below (by exact Kd.xR HO669.out) hb)
   have n3_ := Aside0.mk (blk_below (g := gb632) (o := .cells #[.string a0_0, .bool a0_1, .int .i64 a0_2, .int .i64 a0_3, .int .i64 a0_4, .int .i64 a0_5, .int .i64 a0_6, .string a0_7, .slice A0_8 l0_8.length c0_8] 68 (0, 0)) (by exact bk BK632.out) hb)
   have n4_ := Aside0.mk (blk_below (g := gb657) (o := .cells #[.string t646, .bool t647, .int .i64 t648, .int .i64 t649, .int .i64 t650, .int .i64 t651, .int .i64 t652, .string t653, .slice Ao22 t654.length co22] 72 (0, 0)) (by exact bk BK657.out) hb)
   have n5_ := Aside0.mk (below_step (by exact bw HB.out) hb)
   clear HO644
   clear HO656
   clear HO669
   clear BK632
   clear BK657
   clear HB
   have HO644 := n0_
   have HO656 := n1_
   have HO669 := n2_
   have BK632 := n3_
   have BK657 := n4_
   have HB := n5_
   clear n0_ n1_ n2_ n3_ n4_ n5_
   (try clear hb)
   (try clear hb2)
   (try clear hk)
   (try clear hi)
   refine hK.out _ _ ⟨(blk_cell BK657.out 0).trans rfl, (blk_cell BK657.out 1).trans rfl, (blk_cell BK657.out 2).trans rfl, (blk_cell BK657.out 3).trans rfl, (blk_cell BK657.out 4).trans rfl, (blk_cell BK657.out 5).trans rfl, (blk_cell BK657.out 6).trans rfl, (blk_cell BK657.out 7).trans rfl, (blk_cell BK657.out 8).trans rfl, (blk_cell BK632.out 0).trans rfl, (blk_cell BK632.out 1).trans rfl, (blk_cell BK632.out 2).trans rfl, (blk_cell BK632.out 3).trans rfl, (blk_cell BK632.out 4).trans rfl, (blk_cell BK632.out 5).trans rfl, (blk_cell BK632.out 6).trans rfl, (blk_cell BK632.out 7).trans rfl, (blk_cell BK632.out 8).trans rfl⟩ (fun hHeld => ?_)
   clear hK K
   refine norm_ (a' := ?_) ?_ ?_
   rotate_left
   ·
    show Act.put _ (some 25) _ = _
    simp only [Act.put, List.setIfInBounds_toArray, List.set_cons_zero, List.set_cons_succ, i64_w, i32_w]
    rfl
   refine pure_ (i := 4) (N := some 26) (v := ?_) (a' := ?_) #[true, true, true, true, true] rfl rfl (by kernel_rfl) (fun _ _ _ h => h) (Or.inl ⟨by rfl, ?_⟩) ?_ ?_
   rotate_left
   ·
    intro w'
    go_simp
    with_reducible rfl
   rotate_left
   ·
    simp only [Act.put, List.setIfInBounds_toArray, List.set_cons_zero, List.set_cons_succ, i64_w, i32_w]
    rfl
   refine done_ (by kernel_rfl) ?_
   go_upto_if 26 with (fail)
   have H := HC27.out
   clear HC27
   by_cases c32 : t670 = true
   ·
    subst c32
    have H1 : (some true) = some r := by rw [if_pos rfl] at H; exact H
    clear H
    have H := H1
    clear H1
    obtain rfl := Option.some.inj H
    go_wp2
    go_ret
    exact ⟨by first | rfl | (simp [errW_none, errW_some] <;> rfl) | (simp [*, errW_none, errW_some] <;> rfl), by exact bw HB.out⟩
   ·
    replace c32 := Bool.eq_false_iff.mpr c32
    subst c32
    have H1 : (some false) = some r := by rw [if_neg (show ¬ (false = true) by decide)] at H; exact H
    clear H
    have H := H1
    clear H1
    obtain rfl := Option.some.inj H
    go_wp2
    go_ret
    exact ⟨by first | rfl | (simp [errW_none, errW_some] <;> rfl) | (simp [*, errW_none, errW_some] <;> rfl), by exact bw HB.out⟩

/-- THE ONE PURE STATEMENT of laws_FnExactPolicyValid: yours. -/
def laws_FnExactPolicyValid.Pure : Prop := ∀ (a0_0 : ByteArray) (a0_1 : Bool) (a0_2 : Int) (a0_3 : Int) (a0_4 : Int) (a0_5 : Int) (a0_6 : Int) (a0_7 : ByteArray) (l0_8 : List (S50)), Fine68 (⟨a0_0, a0_1, a0_2, a0_3, a0_4, (⟨a0_5, a0_6, a0_7, l0_8⟩ : S50)⟩ : S68) → ∃ k, laws_FnExactPolicyValid.f k a0_0 a0_1 a0_2 a0_3 a0_4 a0_5 a0_6 a0_7 l0_8 = some true
theorem laws_FnExactPolicyValid.walk (P : laws_FnExactPolicyValid.Pure) (a0_0 : ByteArray) (a0_1 : Bool) (a0_2 : Int) (a0_3 : Int) (a0_4 : Int) (a0_5 : Int) (a0_6 : Int) (a0_7 : ByteArray) (A0_8 : Option Addr) (c0_8 : Nat) (l0_8 : List (S50)) (w : World) (hr0_8 : Kd.C k50 w A0_8 l0_8.length l0_8) (hc0_8 : l0_8.length ≤ c0_8) (w0 : Fine68 (⟨a0_0, a0_1, a0_2, a0_3, a0_4, (⟨a0_5, a0_6, a0_7, l0_8⟩ : S50)⟩ : S68)) :
  Calls Try.prog 9 #[.agg #[.string a0_0, .bool a0_1, .int .i64 a0_2, .int .i64 a0_3, .int .i64 a0_4, .int .i64 a0_5, .int .i64 a0_6, .string a0_7, .slice A0_8 l0_8.length c0_8]] w fun e w' => e = .returned (.bool true) ∧ Below w.heap.size w w' := by
 obtain ⟨k, h⟩ := P a0_0 a0_1 a0_2 a0_3 a0_4 a0_5 a0_6 a0_7 l0_8 w0
 refine (laws_FnExactPolicyValid.calls k a0_0 a0_1 a0_2 a0_3 a0_4 a0_5 a0_6 a0_7 _ _ l0_8 true w hr0_8 hc0_8 h).mono ?_
 rintro e w' ⟨rfl, hd⟩
 exact ⟨rfl, hd⟩

end Go.Proofs.Ytejfaenmgdkaoaa.P
