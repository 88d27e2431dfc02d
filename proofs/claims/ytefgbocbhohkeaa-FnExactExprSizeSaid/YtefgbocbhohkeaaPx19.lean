-- Written by a program of this session (wip/tool).
import Derived.Test.YtefgbocbhohkeaaPx0
import Derived.Test.YtefgbocbhohkeaaPx2
import Derived.Test.YtefgbocbhohkeaaPx10
import Derived.Test.YtefgbocbhohkeaaPx12
import Derived.Test.YtefgbocbhohkeaaPx14
import Derived.Test.YtefgbocbhohkeaaPx17
import Derived.Test.YtefgbocbhohkeaaPx18
namespace Go.Proofs.Ytefgbocbhohkeaa.P
open Go.RowKit Go.Proofs.YtefgbocbhohkeaaW.PrintWords Go.Proofs.YtefgbocbhohkeaaW.PrintLast Go.Proofs.YtefgbocbhohkeaaW.PrintMore
attribute [local go_sem] max2_int min2_int max_two min_two max_three min_three max_four min_four   -- for this text's walks alone
set_option linter.unusedVariables false
set_option linter.unusedSimpArgs false

/-! ### impl_ExprValid: function 38 -/
def impl_ExprValid.f (k : Nat) (a0_0 : Int) (a0_1 : Int) (a0_2 : ByteArray) (l0_3 : List (S54)) : Option (Bool) := (impl_Expr_size.f k a0_0 a0_1 a0_2 l0_3 7).bind fun t465 => ((impl_in.f t465 1 40).bind fun t466 => (some t466))
theorem impl_ExprValid.mono : ∀ a0 a1 a2 a3 k, LeO (impl_ExprValid.f k a0 a1 a2 a3) (impl_ExprValid.f (k + 1) a0 a1 a2 a3) := by
 intro a0 a1 a2 a3 k
 unfold impl_ExprValid.f
 repeat' first
   | (with_reducible exact impl_Expr_size.mono _ _ _ _ _ _)
   | (with_reducible exact LeO.refl _)
   | (with_reducible exact LeO.none _)
   | (with_reducible refine LeO.ite ?_ ?_)
   | (with_reducible refine LeO.bind ?_ (fun _ => ?_))
   | exact impl_Expr_size.mono _ _ _ _ _ _
   | exact LeO.none _
   | refine LeO.ite ?_ ?_
   | refine LeO.bind ?_ (fun _ => ?_)
set_option maxHeartbeats 8000000 in
set_option maxRecDepth 100000 in
theorem impl_ExprValid.calls (k : Nat) (a0_0 : Int) (a0_1 : Int) (a0_2 : ByteArray) (A0_3 : Option Addr) (c0_3 : Nat) (l0_3 : List (S54)) (r : Bool) (w : World) (hr0_3 : Kd.C k54 w A0_3 l0_3.length l0_3) (hc0_3 : l0_3.length ≤ c0_3) (h : impl_ExprValid.f k a0_0 a0_1 a0_2 l0_3 = some r) :
  Calls Try.prog 38 #[.agg #[.int .i64 a0_0, .int .i64 a0_1, .string a0_2, .slice A0_3 l0_3.length c0_3]] w fun e w' => e = .returned (.bool r) ∧ Below w.heap.size w w' := by
 have hu54 := Try.underlying54
 have HR0_3 := Aside0.mk hr0_3
 have HC0_3 := Aside0.mk hc0_3
 clear hr0_3 hc0_3
 have HB := Aside0.mk (Below.refl w.heap.size w)
 have H : ((impl_Expr_size.f k a0_0 a0_1 a0_2 l0_3 7).bind fun t465 => ((impl_in.f t465 1 40).bind fun t466 => (some t466))) = some r := h
 clear h
 replace H := Option.bind_eq_some_iff.mp H
 obtain ⟨t465, A20, H⟩ := H
 replace H : ((impl_in.f t465 1 40).bind fun t466 => (some t466)) = some r := H
 have A2 := Aside0.mk A20
 clear A20
 replace H := Option.bind_eq_some_iff.mp H
 obtain ⟨t466, A30, H⟩ := H
 replace H : (some t466) = some r := H
 have A3 := Aside0.mk A30
 clear A30
 obtain rfl := Option.some.inj H
 go_enter Try.func38, Try.ntmps38
 go_wp2_with (first | ((with_reducible refine gate_dst (N := 1) rfl ?_); refine box_event ?hg (N := 1) ?hd (cs := #[.int .i64 a0_0, .int .i64 a0_1, .string a0_2, .slice A0_3 l0_3.length c0_3]) (t := 54) ?hr ?_; (case hd => rfl); (case hg => rfl); (case hr => first | (go_simp; done) | (go_simp; rfl)); intro gb464 hg w4 hbox hb; have n0_ := Aside0.mk (below_step (by exact bw HB.out) hb); have n1_ := Aside0.mk (hbox); have n2_ := Aside0.mk ((by rw [hg]; exact (below_size (by exact bw HB.out)) : w.heap.size ≤ gb464)); have n3_ := Aside0.mk ((by rw [hg]; exact (below_size (by exact bw HB.out)) : w.heap.size ≤ gb464)); clear HB; have HB := n0_; have BK464 := n1_; have GW464 := n2_; have GE464 := n3_; clear n0_ n1_ n2_ n3_; clear hb hbox hg; have hcz5_0 : w4.cell? ⟨gb464, 0, none⟩ = some (.int .i64 a0_0) := (blk_cell BK464.out 0).trans rfl; have hcz5_1 : w4.cell? ⟨gb464, 1, none⟩ = some (.int .i64 a0_1) := (blk_cell BK464.out 1).trans rfl; have hcz5_2 : w4.cell? ⟨gb464, 2, none⟩ = some (.string a0_2) := (blk_cell BK464.out 2).trans rfl; have hcz5_3 : w4.cell? ⟨gb464, 3, none⟩ = some (.slice A0_3 l0_3.length c0_3) := (blk_cell BK464.out 3).trans rfl; have hfz5_0 := blk_frozen BK464.out 0; have hfz5_1 := blk_frozen BK464.out 1; have hfz5_2 := blk_frozen BK464.out 2; have hfz5_3 := blk_frozen BK464.out 3) | ((with_reducible refine gate_callee (f := 58) rfl ?_); refine gl (some 4) Try.func58 #[.agg #[.int .i64 a0_0, .int .i64 a0_1, .string a0_2, .slice A0_3 l0_3.length c0_3], .int .i64 7] ?_; (with_reducible refine (impl_Expr_size.calls k a0_0 a0_1 a0_2 _ _ l0_3 7 t465 _ ?side1 ?side2 A2.out).mono ?_); (case side1 => repeat (first | exact (Kd.C_below HR0_3.out HB.out) | (with_reducible refine Kd.C_alloc ?_ _) | (with_reducible refine Kd.C_drewN ?_ _) | (with_reducible refine Kd.C_drew ?_))); (case side2 => exact HC0_3.out); rintro e w6 ⟨rfl, hb⟩; refine ⟨_, rfl, ?_⟩; have n0_ := Aside0.mk (blk_below (g := gb464) (o := .cells #[.int .i64 a0_0, .int .i64 a0_1, .string a0_2, .slice A0_3 l0_3.length c0_3] 54 (0, 0)) (by exact bk BK464.out) hb); have n1_ := Aside0.mk (below_step (by exact bw HB.out) hb); clear BK464; clear HB; have BK464 := n0_; have HB := n1_; clear n0_ n1_; (try clear hb); (try clear hb2); (try clear hk); (try clear hi)) | ((with_reducible refine gate_callee (f := 43) rfl ?_); refine gl (some 5) Try.func43 #[.int .i64 t465, .int .i64 1, .int .i64 40] ?_; (with_reducible refine (impl_in.calls t465 1 40 t466 _ A3.out).mono ?_); rintro e w' ⟨rfl, ⟨nd, rfl⟩⟩; refine ⟨_, rfl, ?_⟩))
 go_ret
 exact ⟨by first | rfl | (simp [errW_none, errW_some] <;> rfl) | (simp [*, errW_none, errW_some] <;> rfl), by exact bw HB.out⟩

/-! ### laws_FnExactExprValid: function 12 -/
def laws_FnExactExprValid.f (k : Nat) (a0_0 : Int) (a0_1 : Int) (a0_2 : ByteArray) (l0_3 : List (S49)) : Option (Bool) := (laws_szExpr.f k a0_0 a0_1 a0_2 l0_3 1048576).bind fun t468 => (if t468 < 0 then (some true) else ((laws_toExpr.f k a0_0 a0_1 a0_2 l0_3).bind fun bt469 => ((spec_ExprValid.f k bt469.1 bt469.2.1 bt469.2.2.1 bt469.2.2.2).bind fun t475 => ((laws_toExpr.f k a0_0 a0_1 a0_2 l0_3).bind fun bt476 => ((impl_ExprValid.f k bt476.1 bt476.2.1 bt476.2.2.1 bt476.2.2.2).bind fun t483 => (if (t483 != t475) = true then (some false) else ((laws_toExpr.f k a0_0 a0_1 a0_2 l0_3).bind fun bt484 => ((laws_eqExpr.f k bt476.1 bt476.2.1 bt476.2.2.1 bt476.2.2.2 bt484.1 bt484.2.1 bt484.2.2.1 bt484.2.2.2).bind fun t490 => (if t490 = true then (some true) else (some false))))))))))
theorem laws_FnExactExprValid.mono : ∀ a0 a1 a2 a3 k, LeO (laws_FnExactExprValid.f k a0 a1 a2 a3) (laws_FnExactExprValid.f (k + 1) a0 a1 a2 a3) := by
 intro a0 a1 a2 a3 k
 unfold laws_FnExactExprValid.f
 repeat' first
   | (with_reducible exact impl_ExprValid.mono _ _ _ _ _)
   | (with_reducible exact laws_eqExpr.mono _ _ _ _ _ _ _ _ _)
   | (with_reducible exact laws_szExpr.mono _ _ _ _ _ _)
   | (with_reducible exact laws_toExpr.mono _ _ _ _ _)
   | (with_reducible exact spec_ExprValid.mono _ _ _ _ _)
   | (with_reducible exact LeO.refl _)
   | (with_reducible exact LeO.none _)
   | (with_reducible refine LeO.ite ?_ ?_)
   | (with_reducible refine LeO.bind ?_ (fun _ => ?_))
   | exact impl_ExprValid.mono _ _ _ _ _
   | exact laws_eqExpr.mono _ _ _ _ _ _ _ _ _
   | exact laws_szExpr.mono _ _ _ _ _ _
   | exact laws_toExpr.mono _ _ _ _ _
   | exact spec_ExprValid.mono _ _ _ _ _
   | exact LeO.none _
   | refine LeO.ite ?_ ?_
   | refine LeO.bind ?_ (fun _ => ?_)
set_option maxHeartbeats 8000000 in
set_option maxRecDepth 100000 in
theorem laws_FnExactExprValid.calls (k : Nat) (a0_0 : Int) (a0_1 : Int) (a0_2 : ByteArray) (A0_3 : Option Addr) (c0_3 : Nat) (l0_3 : List (S49)) (r : Bool) (w : World) (hr0_3 : Kd.C k49 w A0_3 l0_3.length l0_3) (hc0_3 : l0_3.length ≤ c0_3) (h : laws_FnExactExprValid.f k a0_0 a0_1 a0_2 l0_3 = some r) :
  Calls Try.prog 12 #[.agg #[.int .i64 a0_0, .int .i64 a0_1, .string a0_2, .slice A0_3 l0_3.length c0_3]] w fun e w' => e = .returned (.bool r) ∧ Below w.heap.size w w' := by
 have hu49 := Try.underlying49
 have hu54 := Try.underlying54
 have HR0_3 := Aside0.mk hr0_3
 have HC0_3 := Aside0.mk hc0_3
 clear hr0_3 hc0_3
 have HB := Aside0.mk (Below.refl w.heap.size w)
 have H : ((laws_szExpr.f k a0_0 a0_1 a0_2 l0_3 1048576).bind fun t468 => (if t468 < 0 then (some true) else ((laws_toExpr.f k a0_0 a0_1 a0_2 l0_3).bind fun bt469 => ((spec_ExprValid.f k bt469.1 bt469.2.1 bt469.2.2.1 bt469.2.2.2).bind fun t475 => ((laws_toExpr.f k a0_0 a0_1 a0_2 l0_3).bind fun bt476 => ((impl_ExprValid.f k bt476.1 bt476.2.1 bt476.2.2.1 bt476.2.2.2).bind fun t483 => (if (t483 != t475) = true then (some false) else ((laws_toExpr.f k a0_0 a0_1 a0_2 l0_3).bind fun bt484 => ((laws_eqExpr.f k bt476.1 bt476.2.1 bt476.2.2.1 bt476.2.2.2 bt484.1 bt484.2.1 bt484.2.2.1 bt484.2.2.2).bind fun t490 => (if t490 = true then (some true) else (some false))))))))))) = some r := h
 clear h
 replace H := Option.bind_eq_some_iff.mp H
 obtain ⟨t468, A20, H⟩ := H
 replace H : (if t468 < 0 then (some true) else ((laws_toExpr.f k a0_0 a0_1 a0_2 l0_3).bind fun bt469 => ((spec_ExprValid.f k bt469.1 bt469.2.1 bt469.2.2.1 bt469.2.2.2).bind fun t475 => ((laws_toExpr.f k a0_0 a0_1 a0_2 l0_3).bind fun bt476 => ((impl_ExprValid.f k bt476.1 bt476.2.1 bt476.2.2.1 bt476.2.2.2).bind fun t483 => (if (t483 != t475) = true then (some false) else ((laws_toExpr.f k a0_0 a0_1 a0_2 l0_3).bind fun bt484 => ((laws_eqExpr.f k bt476.1 bt476.2.1 bt476.2.2.1 bt476.2.2.2 bt484.1 bt484.2.1 bt484.2.2.1 bt484.2.2.2).bind fun t490 => (if t490 = true then (some true) else (some false)))))))))) = some r := H
 have A2 := Aside0.mk A20
 clear A20
 have HC3 := Aside0.mk H
 clear H
 go_enter Try.func12, Try.ntmps12
 go_upto_if 11 with (first | ((with_reducible refine gate_dst (N := 1) rfl ?_); refine box_event ?hg (N := 1) ?hd (cs := #[.int .i64 a0_0, .int .i64 a0_1, .string a0_2, .slice A0_3 l0_3.length c0_3]) (t := 49) ?hr ?_; (case hd => rfl); (case hg => rfl); (case hr => first | (go_simp; done) | (go_simp; rfl)); intro gb467 hg w4 hbox hb; have n0_ := Aside0.mk (below_step (by exact bw HB.out) hb); have n1_ := Aside0.mk (hbox); have n2_ := Aside0.mk ((by rw [hg]; exact (below_size (by exact bw HB.out)) : w.heap.size ≤ gb467)); have n3_ := Aside0.mk ((by rw [hg]; exact (below_size (by exact bw HB.out)) : w.heap.size ≤ gb467)); clear HB; have HB := n0_; have BK467 := n1_; have GW467 := n2_; have GE467 := n3_; clear n0_ n1_ n2_ n3_; clear hb hbox hg; have hcz5_0 : w4.cell? ⟨gb467, 0, none⟩ = some (.int .i64 a0_0) := (blk_cell BK467.out 0).trans rfl; have hcz5_1 : w4.cell? ⟨gb467, 1, none⟩ = some (.int .i64 a0_1) := (blk_cell BK467.out 1).trans rfl; have hcz5_2 : w4.cell? ⟨gb467, 2, none⟩ = some (.string a0_2) := (blk_cell BK467.out 2).trans rfl; have hcz5_3 : w4.cell? ⟨gb467, 3, none⟩ = some (.slice A0_3 l0_3.length c0_3) := (blk_cell BK467.out 3).trans rfl; have hfz5_0 := blk_frozen BK467.out 0; have hfz5_1 := blk_frozen BK467.out 1; have hfz5_2 := blk_frozen BK467.out 2; have hfz5_3 := blk_frozen BK467.out 3) | ((with_reducible refine gate_callee (f := 32) rfl ?_); refine gl (some 9) Try.func32 #[.agg #[.int .i64 a0_0, .int .i64 a0_1, .string a0_2, .slice A0_3 l0_3.length c0_3], .int .i64 1048576] ?_; (with_reducible refine (laws_szExpr.calls k a0_0 a0_1 a0_2 _ _ l0_3 1048576 t468 _ ?side1 ?side2 A2.out).mono ?_); (case side1 => repeat (first | exact (Kd.C_below HR0_3.out HB.out) | (with_reducible refine Kd.C_alloc ?_ _) | (with_reducible refine Kd.C_drewN ?_ _) | (with_reducible refine Kd.C_drew ?_))); (case side2 => exact HC0_3.out); rintro e w6 ⟨rfl, hb⟩; refine ⟨_, rfl, ?_⟩; have n0_ := Aside0.mk (blk_below (g := gb467) (o := .cells #[.int .i64 a0_0, .int .i64 a0_1, .string a0_2, .slice A0_3 l0_3.length c0_3] 49 (0, 0)) (by exact bk BK467.out) hb); have n1_ := Aside0.mk (below_step (by exact bw HB.out) hb); clear BK467; clear HB; have BK467 := n0_; have HB := n1_; clear n0_ n1_; (try clear hb); (try clear hb2); (try clear hk); (try clear hi)))
 (try simp only [Act.put, List.setIfInBounds_toArray, List.set_cons_zero, List.set_cons_succ])
 have H := HC3.out
 clear HC3
 by_cases c7 : t468 < 0
 ·
  rw [if_pos c7] at H
  have c7b0 : decide (t468 < 0) = true := decide_eq_true c7
  clear c7
  (first | rw [c7b0] | (simp only [i64_w, i32_w]; rw [c7b0]) | rw [c7b2] | rw [c7b1] | skip)
  obtain rfl := Option.some.inj H
  go_wp2
  go_ret
  exact ⟨by first | rfl | (simp [errW_none, errW_some] <;> rfl) | (simp [*, errW_none, errW_some] <;> rfl), by exact bw HB.out⟩
 ·
  rw [if_neg c7] at H
  have c7b0 : decide (t468 < 0) = false := decide_eq_false c7
  clear c7
  (first | rw [c7b0] | (simp only [i64_w, i32_w]; rw [c7b0]) | rw [c7b2] | rw [c7b1] | skip)
  replace H := Option.bind_eq_some_iff.mp H
  obtain ⟨⟨t469, t470, t471, t472⟩, A80, H⟩ := H
  replace H : ((spec_ExprValid.f k t469 t470 t471 t472).bind fun t475 => ((laws_toExpr.f k a0_0 a0_1 a0_2 l0_3).bind fun bt476 => ((impl_ExprValid.f k bt476.1 bt476.2.1 bt476.2.2.1 bt476.2.2.2).bind fun t483 => (if (t483 != t475) = true then (some false) else ((laws_toExpr.f k a0_0 a0_1 a0_2 l0_3).bind fun bt484 => ((laws_eqExpr.f k bt476.1 bt476.2.1 bt476.2.2.1 bt476.2.2.2 bt484.1 bt484.2.1 bt484.2.2.1 bt484.2.2.2).bind fun t490 => (if t490 = true then (some true) else (some false)))))))) = some r := H
  have A8 := Aside0.mk A80
  clear A80
  replace H := Option.bind_eq_some_iff.mp H
  obtain ⟨t475, A90, H⟩ := H
  replace H : ((laws_toExpr.f k a0_0 a0_1 a0_2 l0_3).bind fun bt476 => ((impl_ExprValid.f k bt476.1 bt476.2.1 bt476.2.2.1 bt476.2.2.2).bind fun t483 => (if (t483 != t475) = true then (some false) else ((laws_toExpr.f k a0_0 a0_1 a0_2 l0_3).bind fun bt484 => ((laws_eqExpr.f k bt476.1 bt476.2.1 bt476.2.2.1 bt476.2.2.2 bt484.1 bt484.2.1 bt484.2.2.1 bt484.2.2.2).bind fun t490 => (if t490 = true then (some true) else (some false))))))) = some r := H
  have A9 := Aside0.mk A90
  clear A90
  replace H := Option.bind_eq_some_iff.mp H
  obtain ⟨⟨t476, t477, t478, t479⟩, A100, H⟩ := H
  replace H : ((impl_ExprValid.f k t476 t477 t478 t479).bind fun t483 => (if (t483 != t475) = true then (some false) else ((laws_toExpr.f k a0_0 a0_1 a0_2 l0_3).bind fun bt484 => ((laws_eqExpr.f k t476 t477 t478 t479 bt484.1 bt484.2.1 bt484.2.2.1 bt484.2.2.2).bind fun t490 => (if t490 = true then (some true) else (some false)))))) = some r := H
  have A10 := Aside0.mk A100
  clear A100
  replace H := Option.bind_eq_some_iff.mp H
  obtain ⟨t483, A110, H⟩ := H
  replace H : (if (t483 != t475) = true then (some false) else ((laws_toExpr.f k a0_0 a0_1 a0_2 l0_3).bind fun bt484 => ((laws_eqExpr.f k t476 t477 t478 t479 bt484.1 bt484.2.1 bt484.2.2.1 bt484.2.2.2).bind fun t490 => (if t490 = true then (some true) else (some false))))) = some r := H
  have A11 := Aside0.mk A110
  clear A110
  have HC12 := Aside0.mk H
  clear H
  have hcz13_0 : w6.cell? ⟨gb467, 0, none⟩ = some (.int .i64 a0_0) := (blk_cell BK467.out 0).trans rfl
  have hcz13_1 : w6.cell? ⟨gb467, 1, none⟩ = some (.int .i64 a0_1) := (blk_cell BK467.out 1).trans rfl
  have hcz13_2 : w6.cell? ⟨gb467, 2, none⟩ = some (.string a0_2) := (blk_cell BK467.out 2).trans rfl
  have hcz13_3 : w6.cell? ⟨gb467, 3, none⟩ = some (.slice A0_3 l0_3.length c0_3) := (blk_cell BK467.out 3).trans rfl
  have hfz13_0 := blk_frozen BK467.out 0
  have hfz13_1 := blk_frozen BK467.out 1
  have hfz13_2 := blk_frozen BK467.out 2
  have hfz13_3 := blk_frozen BK467.out 3
  go_upto_if 21 with (first | ((with_reducible refine gate_callee (f := 34) rfl ?_); refine gl (some 13) Try.func34 #[.agg #[.int .i64 a0_0, .int .i64 a0_1, .string a0_2, .slice A0_3 l0_3.length c0_3]] ?_; (with_reducible refine (laws_toExpr.calls k a0_0 a0_1 a0_2 _ _ l0_3 t469 t470 t471 t472 _ ?side1 ?side2 A8.out).mono ?_); (case side1 => repeat (first | exact (Kd.C_below HR0_3.out HB.out) | (with_reducible refine Kd.C_alloc ?_ _) | (with_reducible refine Kd.C_drewN ?_ _) | (with_reducible refine Kd.C_drew ?_))); (case side2 => exact HC0_3.out); rintro e w14 ⟨v473, rfl, ho0, hb⟩; refine ⟨_, rfl, ?_⟩; have n0_ := Aside0.mk (Kd.R_lower ho0 (below_size (by exact bw HB.out))); have n1_ := Aside0.mk (blk_below (g := gb467) (o := .cells #[.int .i64 a0_0, .int .i64 a0_1, .string a0_2, .slice A0_3 l0_3.length c0_3] 49 (0, 0)) (by exact bk BK467.out) hb); have n2_ := Aside0.mk (below_step (by exact bw HB.out) hb); clear BK467; clear HB; have HO474 := n0_; have BK467 := n1_; have HB := n2_; clear n0_ n1_ n2_; (try clear hb); (try clear hb2); (try clear hk); (try clear hi); (try clear ho0); obtain ⟨Ao15, co15, eo15⟩ := Kd.R_slice HO474.out; subst eo15) | ((with_reducible refine gate_callee (f := 37) rfl ?_); refine gl (some 14) Try.func37 #[.agg #[.int .i64 t469, .int .i64 t470, .string t471, .slice Ao15 t472.length co15]] ?_; (with_reducible refine (spec_ExprValid.calls k t469 t470 t471 _ _ t472 t475 _ ?side1 ?side2 A9.out).mono ?_); (case side1 => repeat (first | exact (Kd.R_reads' HO474.out).2.2 | (with_reducible refine Kd.C_alloc ?_ _) | (with_reducible refine Kd.C_drewN ?_ _) | (with_reducible refine Kd.C_drew ?_))); (case side2 => exact (Kd.R_reads' HO474.out).2.1); rintro e w16 ⟨rfl, hb⟩; refine ⟨_, rfl, ?_⟩; have n0_ := Aside0.mk (Kd.R_below (by exact Kd.xR HO474.out) hb); have n1_ := Aside0.mk (blk_below (g := gb467) (o := .cells #[.int .i64 a0_0, .int .i64 a0_1, .string a0_2, .slice A0_3 l0_3.length c0_3] 49 (0, 0)) (by exact bk BK467.out) hb); have n2_ := Aside0.mk (below_step (by exact bw HB.out) hb); clear HO474; clear BK467; clear HB; have HO474 := n0_; have BK467 := n1_; have HB := n2_; clear n0_ n1_ n2_; (try clear hb); (try clear hb2); (try clear hk); (try clear hi); have hcz17_0 : w16.cell? ⟨gb467, 0, none⟩ = some (.int .i64 a0_0) := (blk_cell BK467.out 0).trans rfl; have hcz17_1 : w16.cell? ⟨gb467, 1, none⟩ = some (.int .i64 a0_1) := (blk_cell BK467.out 1).trans rfl; have hcz17_2 : w16.cell? ⟨gb467, 2, none⟩ = some (.string a0_2) := (blk_cell BK467.out 2).trans rfl; have hcz17_3 : w16.cell? ⟨gb467, 3, none⟩ = some (.slice A0_3 l0_3.length c0_3) := (blk_cell BK467.out 3).trans rfl; have hfz17_0 := blk_frozen BK467.out 0; have hfz17_1 := blk_frozen BK467.out 1; have hfz17_2 := blk_frozen BK467.out 2; have hfz17_3 := blk_frozen BK467.out 3) | ((with_reducible refine gate_callee (f := 34) rfl ?_); refine gl (some 16) Try.func34 #[.agg #[.int .i64 a0_0, .int .i64 a0_1, .string a0_2, .slice A0_3 l0_3.length c0_3]] ?_; (with_reducible refine (laws_toExpr.calls k a0_0 a0_1 a0_2 _ _ l0_3 t476 t477 t478 t479 _ ?side1 ?side2 A10.out).mono ?_); (case side1 => repeat (first | exact (Kd.C_below HR0_3.out HB.out) | (with_reducible refine Kd.C_alloc ?_ _) | (with_reducible refine Kd.C_drewN ?_ _) | (with_reducible refine Kd.C_drew ?_))); (case side2 => exact HC0_3.out); rintro e w18 ⟨v480, rfl, ho0, hb⟩; refine ⟨_, rfl, ?_⟩; have n0_ := Aside0.mk (Kd.R_elder' (by exact Kd.xR HO474.out) (Kd.R_base ho0) hb); have n1_ := Aside0.mk (Kd.R_lower (Kd.R_new' ho0 (Kd.R_lt (by exact Kd.xR HO474.out))) (below_size (by exact bw HB.out))); have n2_ := Aside0.mk (blk_below (g := gb467) (o := .cells #[.int .i64 a0_0, .int .i64 a0_1, .string a0_2, .slice A0_3 l0_3.length c0_3] 49 (0, 0)) (by exact bk BK467.out) hb); have n3_ := Aside0.mk (below_step (by exact bw HB.out) hb); clear HO474; clear BK467; clear HB; have HO474 := n0_; have HO481 := n1_; have BK467 := n2_; have HB := n3_; clear n0_ n1_ n2_ n3_; (try clear hb); (try clear hb2); (try clear hk); (try clear hi); (try clear ho0)) | ((with_reducible refine gate_dst (N := 5) rfl ?_); refine box_event ?hg (N := 5) ?hd (cs := #[.int .i64 0, .int .i64 0, .string (⟨#[]⟩ : ByteArray), .slice none 0 0]) (t := 54) ?hr ?_; (case hd => rfl); (case hg => rfl); (case hr => first | (go_simp; done) | (go_simp; rfl)); intro gb482 hg w19 hbox hb; have n0_ := Aside0.mk (Kd.R_below (Kd.R_elderB (by exact Kd.xR HO474.out) gb482 (Nat.le_of_eq hg.symm)) hb); have n1_ := Aside0.mk (Kd.R_below (Kd.R_elderB (by exact Kd.xR HO481.out) gb482 (Nat.le_of_eq hg.symm)) hb); have n2_ := Aside0.mk (blk_below (g := gb467) (o := .cells #[.int .i64 a0_0, .int .i64 a0_1, .string a0_2, .slice A0_3 l0_3.length c0_3] 49 (0, 0)) (by exact bk BK467.out) hb); have n3_ := Aside0.mk (below_step (by exact bw HB.out) hb); have n4_ := Aside0.mk (hbox); have n5_ := Aside0.mk ((by rw [hg]; exact (below_size (by exact bw HB.out)) : w.heap.size ≤ gb482)); have n6_ := Aside0.mk ((by rw [hg]; exact (below_size (by exact bw HB.out)) : w.heap.size ≤ gb482)); have n7_ := Aside0.mk ((by rw [hg]; exact Nat.ne_of_lt (blk_lt (g := gb467) (o := .cells #[.int .i64 a0_0, .int .i64 a0_1, .string a0_2, .slice A0_3 l0_3.length c0_3] 49 (0, 0)) (by exact bk BK467.out)) : gb467 ≠ gb482)); have n8_ := Aside0.mk ((by rw [hg]; exact Nat.ne_of_gt (blk_lt (g := gb467) (o := .cells #[.int .i64 a0_0, .int .i64 a0_1, .string a0_2, .slice A0_3 l0_3.length c0_3] 49 (0, 0)) (by exact bk BK467.out)) : gb482 ≠ gb467)); clear HO474; clear HO481; clear BK467; clear HB; have HO474 := n0_; have HO481 := n1_; have BK467 := n2_; have HB := n3_; have BK482 := n4_; have GW482 := n5_; have GE482 := n6_; have NB467_482 := n7_; have NB482_467 := n8_; clear n0_ n1_ n2_ n3_ n4_ n5_ n6_ n7_ n8_; clear hb hbox hg; have hnb20 := NB482_467.out; have hnc20 := NB467_482.out; have hcz21_0 : w19.cell? ⟨gb482, 0, none⟩ = some (.int .i64 0) := (blk_cell BK482.out 0).trans rfl; have hcz21_1 : w19.cell? ⟨gb482, 1, none⟩ = some (.int .i64 0) := (blk_cell BK482.out 1).trans rfl; have hcz21_2 : w19.cell? ⟨gb482, 2, none⟩ = some (.string (⟨#[]⟩ : ByteArray)) := (blk_cell BK482.out 2).trans rfl; have hcz21_3 : w19.cell? ⟨gb482, 3, none⟩ = some (.slice none 0 0) := (blk_cell BK482.out 3).trans rfl; have hfz21_0 := blk_frozen BK482.out 0; have hfz21_1 := blk_frozen BK482.out 1; have hfz21_2 := blk_frozen BK482.out 2; have hfz21_3 := blk_frozen BK482.out 3; obtain ⟨Ao22, co22, eo22⟩ := Kd.R_slice HO481.out; subst eo22) | ((with_reducible refine gate_callee (f := 38) rfl ?_); refine gl (some 18) Try.func38 #[.agg #[.int .i64 t476, .int .i64 t477, .string t478, .slice Ao22 t479.length co22]] ?_; (with_reducible refine (impl_ExprValid.calls k t476 t477 t478 _ _ t479 t483 _ ?side1 ?side2 A11.out).mono ?_); (case side1 => refine (Kd.R_reads' (e := 54) (base := w.heap.size) (ok := fun k_ => ((True ∧ some k_ ≠ (.slice Ao15 t472.length co15 : Value).ownBlock) ∧ k_ ≠ gb482)) (n := t479.length) (c := co22) ?_).2.2; exact (by (with_reducible repeat (first | apply Kd.R_alloc | apply Kd.R_drewN | apply Kd.R_drew)); exact (Kd.R_mono (Kd.R_far (p := ⟨gb482, 3, none⟩) (Kd.R_far (p := ⟨gb482, 2, none⟩) (Kd.R_far (p := ⟨gb482, 1, none⟩) (Kd.R_far (p := ⟨gb482, 0, none⟩) (Kd.R_mono HO481.out (fun k_ hk => (⟨hk, okp hk⟩ : _ ∧ k_ ≠ gb482))) (fun _ hk => hk.2) (.int .i64 t476)) (fun _ hk => hk.2) (.int .i64 t477)) (fun _ hk => hk.2) (.string t478)) (fun _ hk => hk.2) (.slice Ao22 t479.length co22)) (fun _ h_ => h_.1)))); (case side2 => exact (Kd.R_reads' HO481.out).2.1); rintro e w23 ⟨rfl, hb⟩; refine ⟨_, rfl, ?_⟩; have n0_ := Aside0.mk (Kd.R_below (by (with_reducible repeat (first | apply Kd.R_alloc | apply Kd.R_drewN | apply Kd.R_drew)); exact (Kd.R_mono (Kd.R_far (p := ⟨gb482, 3, none⟩) (Kd.R_far (p := ⟨gb482, 2, none⟩) (Kd.R_far (p := ⟨gb482, 1, none⟩) (Kd.R_far (p := ⟨gb482, 0, none⟩) (Kd.R_mono HO474.out (fun k_ hk => (⟨hk, okp hk⟩ : _ ∧ k_ ≠ gb482))) (fun _ hk => hk.2) (.int .i64 t476)) (fun _ hk => hk.2) (.int .i64 t477)) (fun _ hk => hk.2) (.string t478)) (fun _ hk => hk.2) (.slice Ao22 t479.length co22)) (fun _ h_ => h_.1))) hb); have n1_ := Aside0.mk (Kd.R_below (by (with_reducible repeat (first | apply Kd.R_alloc | apply Kd.R_drewN | apply Kd.R_drew)); exact (Kd.R_mono (Kd.R_far (p := ⟨gb482, 3, none⟩) (Kd.R_far (p := ⟨gb482, 2, none⟩) (Kd.R_far (p := ⟨gb482, 1, none⟩) (Kd.R_far (p := ⟨gb482, 0, none⟩) (Kd.R_mono HO481.out (fun k_ hk => (⟨hk, okp hk⟩ : _ ∧ k_ ≠ gb482))) (fun _ hk => hk.2) (.int .i64 t476)) (fun _ hk => hk.2) (.int .i64 t477)) (fun _ hk => hk.2) (.string t478)) (fun _ hk => hk.2) (.slice Ao22 t479.length co22)) (fun _ h_ => h_.1))) hb); have n2_ := Aside0.mk (blk_below (g := gb467) (o := .cells #[.int .i64 a0_0, .int .i64 a0_1, .string a0_2, .slice A0_3 l0_3.length c0_3] 49 (0, 0)) (by (with_reducible repeat (first | refine blk_drewN ?_ _ | refine blk_drew ?_ | refine blk_alloc ?_ _)); refine blk_far ?_ NB467_482.out _; (with_reducible repeat (first | refine blk_drewN ?_ _ | refine blk_drew ?_ | refine blk_alloc ?_ _)); refine blk_far ?_ NB467_482.out _; (with_reducible repeat (first | refine blk_drewN ?_ _ | refine blk_drew ?_ | refine blk_alloc ?_ _)); refine blk_far ?_ NB467_482.out _; (with_reducible repeat (first | refine blk_drewN ?_ _ | refine blk_drew ?_ | refine blk_alloc ?_ _)); refine blk_far ?_ NB467_482.out _; exact bk BK467.out) hb); have n3_ := Aside0.mk (blk_below (g := gb482) (o := .cells #[.int .i64 t476, .int .i64 t477, .string t478, .slice Ao22 t479.length co22] 54 (0, 0)) (by (with_reducible repeat (first | refine blk_drewN ?_ _ | refine blk_drew ?_ | refine blk_alloc ?_ _)); refine blk_put (cs := #[.int .i64 t476, .int .i64 t477, .string t478, .slice none 0 0]) ?_ 3 _ rfl; (with_reducible repeat (first | refine blk_drewN ?_ _ | refine blk_drew ?_ | refine blk_alloc ?_ _)); refine blk_put (cs := #[.int .i64 t476, .int .i64 t477, .string (⟨#[]⟩ : ByteArray), .slice none 0 0]) ?_ 2 _ rfl; (with_reducible repeat (first | refine blk_drewN ?_ _ | refine blk_drew ?_ | refine blk_alloc ?_ _)); refine blk_put (cs := #[.int .i64 t476, .int .i64 0, .string (⟨#[]⟩ : ByteArray), .slice none 0 0]) ?_ 1 _ rfl; (with_reducible repeat (first | refine blk_drewN ?_ _ | refine blk_drew ?_ | refine blk_alloc ?_ _)); refine blk_put (cs := #[.int .i64 0, .int .i64 0, .string (⟨#[]⟩ : ByteArray), .slice none 0 0]) ?_ 0 _ rfl; exact bk BK482.out) hb); have n4_ := Aside0.mk (below_step (by exact bw HB.out) hb); clear HO474; clear HO481; clear BK467; clear BK482; clear HB; have HO474 := n0_; have HO481 := n1_; have BK467 := n2_; have BK482 := n3_; have HB := n4_; clear n0_ n1_ n2_ n3_ n4_; (try clear hb); (try clear hb2); (try clear hk); (try clear hi)))
  (try simp only [Act.put, List.setIfInBounds_toArray, List.set_cons_zero, List.set_cons_succ])
  have H := HC12.out
  clear HC12
  by_cases c24 : (t483 != t475) = true
  ·
   rw [if_pos c24] at H
   have c24b0 : (t483 != t475) = true := c24
   (try (have c24b1 : decide (t483 = t475) = false := by simpa using c24))
   (try (have c24b2 : (t483 == t475) = false := by simpa using c24))
   (try (have c24b3 : ¬ (t483 = t475) := by simpa using c24))
   clear c24
   (first | rw [c24b0] | (simp only [i64_w, i32_w]; rw [c24b0]) | rw [c24b2] | rw [c24b1] | skip)
   obtain rfl := Option.some.inj H
   go_wp2
   go_ret
   exact ⟨by first | rfl | (simp [errW_none, errW_some] <;> rfl) | (simp [*, errW_none, errW_some] <;> rfl), by exact bw HB.out⟩
  ·
   rw [if_neg c24] at H
   have c24b0 : (t483 != t475) = false := by simpa using c24
   (try (have c24b1 : decide (t483 = t475) = true := by simpa using c24))
   (try (have c24b2 : (t483 == t475) = true := by simpa using c24))
   clear c24
   (first | rw [c24b0] | (simp only [i64_w, i32_w]; rw [c24b0]) | rw [c24b2] | rw [c24b1] | skip)
   replace H := Option.bind_eq_some_iff.mp H
   obtain ⟨⟨t484, t485, t486, t487⟩, A250, H⟩ := H
   replace H : ((laws_eqExpr.f k t476 t477 t478 t479 t484 t485 t486 t487).bind fun t490 => (if t490 = true then (some true) else (some false))) = some r := H
   have A25 := Aside0.mk A250
   clear A250
   replace H := Option.bind_eq_some_iff.mp H
   obtain ⟨t490, A260, H⟩ := H
   replace H : (if t490 = true then (some true) else (some false)) = some r := H
   have A26 := Aside0.mk A260
   clear A260
   have HC27 := Aside0.mk H
   clear H
   try go_wp2
   have n0_ := Aside0.mk (Kd.R_drew HO474.out)
   have n1_ := Aside0.mk (Kd.R_drew HO481.out)
   have n2_ := Aside0.mk (blk_drew BK467.out)
   have n3_ := Aside0.mk (blk_drew BK482.out)
   have n4_ := Aside0.mk (below_drew1 HB.out)
   clear HO474
   clear HO481
   clear BK467
   clear BK482
   clear HB
   have HO474 := n0_
   have HO481 := n1_
   have BK467 := n2_
   have BK482 := n3_
   have HB := n4_
   clear n0_ n1_ n2_ n3_ n4_
   refine start_ (n := 5) (S := fun w' => w'.cell? ⟨gb482, 0, none⟩ = some (.int .i64 t476) ∧ w'.cell? ⟨gb482, 1, none⟩ = some (.int .i64 t477) ∧ w'.cell? ⟨gb482, 2, none⟩ = some (.string t478) ∧ w'.cell? ⟨gb482, 3, none⟩ = some (.slice Ao22 t479.length co22) ∧ w'.cell? ⟨gb467, 0, none⟩ = some (.int .i64 a0_0) ∧ w'.cell? ⟨gb467, 1, none⟩ = some (.int .i64 a0_1) ∧ w'.cell? ⟨gb467, 2, none⟩ = some (.string a0_2) ∧ w'.cell? ⟨gb467, 3, none⟩ = some (.slice A0_3 l0_3.length c0_3)) (ds := []) #[false, false, false, false, false] (by kernel_rfl) rfl rfl ⟨(blk_cell BK482.out 0).trans rfl, (blk_cell BK482.out 1).trans rfl, (blk_cell BK482.out 2).trans rfl, (blk_cell BK482.out 3).trans rfl, (blk_cell BK467.out 0).trans rfl, (blk_cell BK467.out 1).trans rfl, (blk_cell BK467.out 2).trans rfl, (blk_cell BK467.out 3).trans rfl⟩ (fun hHeld => ?_)
   generalize w23.drew = w28 at HO474 HO481 BK467 BK482 HB hHeld ⊢
   refine take_ (i := 0) (N := some 22) (v := ?_) (a' := ?_) #[true, false, false, false, false] rfl rfl (by kernel_rfl) (fun _ _ _ h => h) (Or.inl ⟨by rfl, ?_⟩) hHeld ?_ ?_
   rotate_left
   ·
    rintro w' ⟨s0, s1, s2, s3, s4, s5, s6, s7⟩
    go_simp
    with_reducible rfl
   rotate_left
   ·
    simp only [Act.put, List.setIfInBounds_toArray, List.set_cons_zero, List.set_cons_succ, i64_w, i32_w]
    rfl
   refine take_ (i := 1) (N := some 23) (v := ?_) (a' := ?_) #[true, true, false, false, false] rfl rfl (by kernel_rfl) (fun _ _ _ h => h) (Or.inl ⟨by rfl, ?_⟩) hHeld ?_ ?_
   rotate_left
   ·
    rintro w' ⟨s0, s1, s2, s3, s4, s5, s6, s7⟩
    go_simp
    with_reducible rfl
   rotate_left
   ·
    simp only [Act.put, List.setIfInBounds_toArray, List.set_cons_zero, List.set_cons_succ, i64_w, i32_w]
    rfl
   refine one_ (i := 2) (N := some 24) #[true, true, true, false, false] rfl rfl (by kernel_rfl) (by decide) (fun K hK => ?_)
   refine goes_ Try.func34 (by kernel_rfl) rfl #[.agg #[.int .i64 a0_0, .int .i64 a0_1, .string a0_2, .slice A0_3 l0_3.length c0_3]] (by rfl) rfl rfl (by (try simp only [List.map_toArray, List.map_cons, List.map_nil]); first | done | rfl | (simp only [List.length_drop, List.length_take]; rfl)) ?_
   with_reducible refine (laws_toExpr.calls k a0_0 a0_1 a0_2 _ _ l0_3 t484 t485 t486 t487 _ ?side1 ?side2 A25.out).mono ?_
   (case side1 => repeat (first | exact (Kd.C_below HR0_3.out HB.out) | (with_reducible refine Kd.C_alloc ?_ _) | (with_reducible refine Kd.C_drewN ?_ _) | (with_reducible refine Kd.C_drew ?_)))
   (case side2 => exact HC0_3.out)
   rintro e w29 ⟨v488, rfl, ho0, hb⟩
   refine ⟨_, rfl, ?_⟩
   have n0_ := Aside0.mk (Kd.R_elder' (by exact Kd.xR HO474.out) (Kd.R_base ho0) hb)
   have n1_ := Aside0.mk (Kd.R_elder' (by exact Kd.xR HO481.out) (Kd.R_base ho0) hb)
   have n2_ := Aside0.mk (Kd.R_lower (Kd.R_newB (Kd.R_new' (Kd.R_new' ho0 (Kd.R_lt (by exact Kd.xR HO474.out))) (Kd.R_lt (by exact Kd.xR HO481.out))) (g := gb482) (o := .cells #[.int .i64 t476, .int .i64 t477, .string t478, .slice Ao22 t479.length co22] 54 (0, 0)) (by exact bk BK482.out)) (below_size (by exact bw HB.out)))
   have n3_ := Aside0.mk (blk_below (g := gb467) (o := .cells #[.int .i64 a0_0, .int .i64 a0_1, .string a0_2, .slice A0_3 l0_3.length c0_3] 49 (0, 0)) (by exact bk BK467.out) hb)
   have n4_ := Aside0.mk (blk_below (g := gb482) (o := .cells #[.int .i64 t476, .int .i64 t477, .string t478, .slice Ao22 t479.length co22] 54 (0, 0)) (by exact bk BK482.out) hb)
   have n5_ := Aside0.mk (below_step (by exact bw HB.out) hb)
   clear HO474
   clear HO481
   clear BK467
   clear BK482
   clear HB
   have HO474 := n0_
   have HO481 := n1_
   have HO489 := n2_
   have BK467 := n3_
   have BK482 := n4_
   have HB := n5_
   clear n0_ n1_ n2_ n3_ n4_ n5_
   (try clear hb)
   (try clear hb2)
   (try clear hk)
   (try clear hi)
   (try clear ho0)
   obtain ⟨Ao30, co30, eo30⟩ := Kd.R_slice HO489.out
   (first | subst eo30 | (injection eo30 with f1_ f2_ f3_; have f4_ := f1_.symm; have f5_ := f3_.symm; clear f1_ f2_ f3_; subst f4_; subst f5_))
   refine hK.out _ _ ⟨(blk_cell BK482.out 0).trans rfl, (blk_cell BK482.out 1).trans rfl, (blk_cell BK482.out 2).trans rfl, (blk_cell BK482.out 3).trans rfl, (blk_cell BK467.out 0).trans rfl, (blk_cell BK467.out 1).trans rfl, (blk_cell BK467.out 2).trans rfl, (blk_cell BK467.out 3).trans rfl⟩ (fun hHeld => ?_)
   clear hK K
   refine norm_ (a' := ?_) ?_ ?_
   rotate_left
   ·
    show Act.put _ (some 24) _ = _
    simp only [Act.put, List.setIfInBounds_toArray, List.set_cons_zero, List.set_cons_succ, i64_w, i32_w]
    rfl
   refine one_ (i := 3) (N := some 25) #[true, true, true, true, false] rfl rfl (by kernel_rfl) (by decide) (fun K hK => ?_)
   refine goes_ Try.func36 (by kernel_rfl) rfl #[.agg #[.int .i64 t476, .int .i64 t477, .string t478, .slice Ao22 t479.length co22], .agg #[.int .i64 t484, .int .i64 t485, .string t486, .slice Ao30 t487.length co30]] (by rfl) rfl rfl (by (try simp only [List.map_toArray, List.map_cons, List.map_nil]); first | done | rfl | (simp only [List.length_drop, List.length_take]; rfl)) ?_
   with_reducible refine (laws_eqExpr.calls k t476 t477 t478 _ _ t479 t484 t485 t486 _ _ t487 t490 _ ?side1 ?side2 ?side3 ?side4 A26.out).mono ?_
   (case side1 => repeat (first | exact (Kd.R_reads' HO481.out).2.2 | (with_reducible refine Kd.C_alloc ?_ _) | (with_reducible refine Kd.C_drewN ?_ _) | (with_reducible refine Kd.C_drew ?_)))
   (case side2 => exact (Kd.R_reads' HO481.out).2.1)
   (case side3 => repeat (first | exact (Kd.R_reads' HO489.out).2.2 | (with_reducible refine Kd.C_alloc ?_ _) | (with_reducible refine Kd.C_drewN ?_ _) | (with_reducible refine Kd.C_drew ?_)))
   (case side4 => exact (Kd.R_reads' HO489.out).2.1)
   rintro e w31 ⟨rfl, hb⟩
   refine ⟨_, rfl, ?_⟩
   have n0_ := Aside0.mk (Kd.R_below (by exact Kd.xR HO474.out) hb)
   have n1_ := Aside0.mk (Kd.R_below (by exact Kd.xR HO481.out) hb)
   have n2_ := Aside0.mk (Kd.R_below (by exact Kd.xR HO489.out) hb)
   have n3_ := Aside0.mk (blk_below (g := gb467) (o := .cells #[.int .i64 a0_0, .int .i64 a0_1, .string a0_2, .slice A0_3 l0_3.length c0_3] 49 (0, 0)) (by exact bk BK467.out) hb)
   have n4_ := Aside0.mk (blk_below (g := gb482) (o := .cells #[.int .i64 t476, .int .i64 t477, .string t478, .slice Ao22 t479.length co22] 54 (0, 0)) (by exact bk BK482.out) hb)
   have n5_ := Aside0.mk (below_step (by exact bw HB.out) hb)
   clear HO474
   clear HO481
   clear HO489
   clear BK467
   clear BK482
   clear HB
   have HO474 := n0_
   have HO481 := n1_
   have HO489 := n2_
   have BK467 := n3_
   have BK482 := n4_
   have HB := n5_
   clear n0_ n1_ n2_ n3_ n4_ n5_
   (try clear hb)
   (try clear hb2)
   (try clear hk)
   (try clear hi)
   refine hK.out _ _ ⟨(blk_cell BK482.out 0).trans rfl, (blk_cell BK482.out 1).trans rfl, (blk_cell BK482.out 2).trans rfl, (blk_cell BK482.out 3).trans rfl, (blk_cell BK467.out 0).trans rfl, (blk_cell BK467.out 1).trans rfl, (blk_cell BK467.out 2).trans rfl, (blk_cell BK467.out 3).trans rfl⟩ (fun hHeld => ?_)
   clear hK K
   refine norm_ (a' := ?_) ?_ ?_
   rotate_left
   ·
    show Act.put _ (some 25) _ = _
    simp only [Act.put, List.setIfInBounds_toArray, List.set_cons_zero, List.set_cons_succ, i64_w, i32_w]
    rfl
   refine pure_ (i := 4) (N := some 26) (v := ?_) (a' := ?_) #[true, true, true, true, true] rfl rfl (by kernel_rfl) (fun _ _ _ h => h) (Or.inl ⟨by rfl, ?_⟩) ?_ ?_
   rotate_left
   ·
    intro w'
    go_simp
    with_reducible rfl
   rotate_left
   ·
    simp only [Act.put, List.setIfInBounds_toArray, List.set_cons_zero, List.set_cons_succ, i64_w, i32_w]
    rfl
   refine done_ (by kernel_rfl) ?_
   go_upto_if 26 with (fail)
   have H := HC27.out
   clear HC27
   by_cases c32 : t490 = true
   ·
    subst c32
    have H1 : (some true) = some r := by rw [if_pos rfl] at H; exact H
    clear H
    have H := H1
    clear H1
    obtain rfl := Option.some.inj H
    go_wp2
    go_ret
    exact ⟨by first | rfl | (simp [errW_none, errW_some] <;> rfl) | (simp [*, errW_none, errW_some] <;> rfl), by exact bw HB.out⟩
   ·
    replace c32 := Bool.eq_false_iff.mpr c32
    subst c32
    have H1 : (some false) = some r := by rw [if_neg (show ¬ (false = true) by decide)] at H; exact H
    clear H
    have H := H1
    clear H1
    obtain rfl := Option.some.inj H
    go_wp2
    go_ret
    exact ⟨by first | rfl | (simp [errW_none, errW_some] <;> rfl) | (simp [*, errW_none, errW_some] <;> rfl), by exact bw HB.out⟩

/-- THE ONE PURE STATEMENT of laws_FnExactExprValid: yours. -/
def laws_FnExactExprValid.Pure : Prop := ∀ (a0_0 : Int) (a0_1 : Int) (a0_2 : ByteArray) (l0_3 : List (S49)), Fine49 (⟨a0_0, a0_1, a0_2, l0_3⟩ : S49) → ∃ k, laws_FnExactExprValid.f k a0_0 a0_1 a0_2 l0_3 = some true
theorem laws_FnExactExprValid.walk (P : laws_FnExactExprValid.Pure) (a0_0 : Int) (a0_1 : Int) (a0_2 : ByteArray) (A0_3 : Option Addr) (c0_3 : Nat) (l0_3 : List (S49)) (w : World) (hr0_3 : Kd.C k49 w A0_3 l0_3.length l0_3) (hc0_3 : l0_3.length ≤ c0_3) (w0 : Fine49 (⟨a0_0, a0_1, a0_2, l0_3⟩ : S49)) :
  Calls Try.prog 12 #[.agg #[.int .i64 a0_0, .int .i64 a0_1, .string a0_2, .slice A0_3 l0_3.length c0_3]] w fun e w' => e = .returned (.bool true) ∧ Below w.heap.size w w' := by
 obtain ⟨k, h⟩ := P a0_0 a0_1 a0_2 l0_3 w0
 refine (laws_FnExactExprValid.calls k a0_0 a0_1 a0_2 _ _ l0_3 true w hr0_3 hc0_3 h).mono ?_
 rintro e w' ⟨rfl, hd⟩
 exact ⟨rfl, hd⟩

/-! ### spec_ExprSize: function 39 -/
def spec_ExprSize.f (k : Nat) (a0_0 : Int) (a0_1 : Int) (a0_2 : ByteArray) (l0_3 : List (S54)) : Option (Int) := (spec_ExprValid.f k a0_0 a0_1 a0_2 l0_3).bind fun t492 => (if t492 = true then ((spec_l4Size.f k a0_0 a0_1 a0_2 l0_3).bind fun t493 => (some t493)) else (some 0))
theorem spec_ExprSize.mono : ∀ a0 a1 a2 a3 k, LeO (spec_ExprSize.f k a0 a1 a2 a3) (spec_ExprSize.f (k + 1) a0 a1 a2 a3) := by
 intro a0 a1 a2 a3 k
 unfold spec_ExprSize.f
 repeat' first
   | (with_reducible exact spec_ExprValid.mono _ _ _ _ _)
   | (with_reducible exact spec_l4Size.mono _ _ _ _ _)
   | (with_reducible exact LeO.refl _)
   | (with_reducible exact LeO.none _)
   | (with_reducible refine LeO.ite ?_ ?_)
   | (with_reducible refine LeO.bind ?_ (fun _ => ?_))
   | exact spec_ExprValid.mono _ _ _ _ _
   | exact spec_l4Size.mono _ _ _ _ _
   | exact LeO.none _
   | refine LeO.ite ?_ ?_
   | refine LeO.bind ?_ (fun _ => ?_)
set_option maxHeartbeats 8000000 in
set_option maxRecDepth 100000 in
theorem spec_ExprSize.calls (k : Nat) (a0_0 : Int) (a0_1 : Int) (a0_2 : ByteArray) (A0_3 : Option Addr) (c0_3 : Nat) (l0_3 : List (S54)) (r : Int) (w : World) (hr0_3 : Kd.C k54 w A0_3 l0_3.length l0_3) (hc0_3 : l0_3.length ≤ c0_3) (h : spec_ExprSize.f k a0_0 a0_1 a0_2 l0_3 = some r) :
  Calls Try.prog 39 #[.agg #[.int .i64 a0_0, .int .i64 a0_1, .string a0_2, .slice A0_3 l0_3.length c0_3]] w fun e w' => e = .returned (.int .i64 r) ∧ Below w.heap.size w w' := by
 have hu54 := Try.underlying54
 have HR0_3 := Aside0.mk hr0_3
 have HC0_3 := Aside0.mk hc0_3
 clear hr0_3 hc0_3
 have HB := Aside0.mk (Below.refl w.heap.size w)
 have H : ((spec_ExprValid.f k a0_0 a0_1 a0_2 l0_3).bind fun t492 => (if t492 = true then ((spec_l4Size.f k a0_0 a0_1 a0_2 l0_3).bind fun t493 => (some t493)) else (some 0))) = some r := h
 clear h
 replace H := Option.bind_eq_some_iff.mp H
 obtain ⟨t492, A20, H⟩ := H
 replace H : (if t492 = true then ((spec_l4Size.f k a0_0 a0_1 a0_2 l0_3).bind fun t493 => (some t493)) else (some 0)) = some r := H
 have A2 := Aside0.mk A20
 clear A20
 by_cases c3 : t492 = true
 ·
  subst c3
  have H1 : ((spec_l4Size.f k a0_0 a0_1 a0_2 l0_3).bind fun t493 => (some t493)) = some r := by rw [if_pos rfl] at H; exact H
  clear H
  have H := H1
  clear H1
  replace H := Option.bind_eq_some_iff.mp H
  obtain ⟨t493, A40, H⟩ := H
  replace H : (some t493) = some r := H
  have A4 := Aside0.mk A40
  clear A40
  obtain rfl := Option.some.inj H
  go_enter Try.func39, Try.ntmps39
  go_wp2_with (first | ((with_reducible refine gate_dst (N := 1) rfl ?_); refine box_event ?hg (N := 1) ?hd (cs := #[.int .i64 a0_0, .int .i64 a0_1, .string a0_2, .slice A0_3 l0_3.length c0_3]) (t := 54) ?hr ?_; (case hd => rfl); (case hg => rfl); (case hr => first | (go_simp; done) | (go_simp; rfl)); intro gb491 hg w5 hbox hb; have n0_ := Aside0.mk (below_step (by exact bw HB.out) hb); have n1_ := Aside0.mk (hbox); have n2_ := Aside0.mk ((by rw [hg]; exact (below_size (by exact bw HB.out)) : w.heap.size ≤ gb491)); have n3_ := Aside0.mk ((by rw [hg]; exact (below_size (by exact bw HB.out)) : w.heap.size ≤ gb491)); clear HB; have HB := n0_; have BK491 := n1_; have GW491 := n2_; have GE491 := n3_; clear n0_ n1_ n2_ n3_; clear hb hbox hg; have hcz6_0 : w5.cell? ⟨gb491, 0, none⟩ = some (.int .i64 a0_0) := (blk_cell BK491.out 0).trans rfl; have hcz6_1 : w5.cell? ⟨gb491, 1, none⟩ = some (.int .i64 a0_1) := (blk_cell BK491.out 1).trans rfl; have hcz6_2 : w5.cell? ⟨gb491, 2, none⟩ = some (.string a0_2) := (blk_cell BK491.out 2).trans rfl; have hcz6_3 : w5.cell? ⟨gb491, 3, none⟩ = some (.slice A0_3 l0_3.length c0_3) := (blk_cell BK491.out 3).trans rfl; have hfz6_0 := blk_frozen BK491.out 0; have hfz6_1 := blk_frozen BK491.out 1; have hfz6_2 := blk_frozen BK491.out 2; have hfz6_3 := blk_frozen BK491.out 3) | ((with_reducible refine gate_callee (f := 37) rfl ?_); refine gl (some 4) Try.func37 #[.agg #[.int .i64 a0_0, .int .i64 a0_1, .string a0_2, .slice A0_3 l0_3.length c0_3]] ?_; (with_reducible refine (spec_ExprValid.calls k a0_0 a0_1 a0_2 _ _ l0_3 true _ ?side1 ?side2 A2.out).mono ?_); (case side1 => repeat (first | exact (Kd.C_below HR0_3.out HB.out) | (with_reducible refine Kd.C_alloc ?_ _) | (with_reducible refine Kd.C_drewN ?_ _) | (with_reducible refine Kd.C_drew ?_))); (case side2 => exact HC0_3.out); rintro e w7 ⟨rfl, hb⟩; refine ⟨_, rfl, ?_⟩; have n0_ := Aside0.mk (blk_below (g := gb491) (o := .cells #[.int .i64 a0_0, .int .i64 a0_1, .string a0_2, .slice A0_3 l0_3.length c0_3] 54 (0, 0)) (by exact bk BK491.out) hb); have n1_ := Aside0.mk (below_step (by exact bw HB.out) hb); clear BK491; clear HB; have BK491 := n0_; have HB := n1_; clear n0_ n1_; (try clear hb); (try clear hb2); (try clear hk); (try clear hi); have hcz8_0 : w7.cell? ⟨gb491, 0, none⟩ = some (.int .i64 a0_0) := (blk_cell BK491.out 0).trans rfl; have hcz8_1 : w7.cell? ⟨gb491, 1, none⟩ = some (.int .i64 a0_1) := (blk_cell BK491.out 1).trans rfl; have hcz8_2 : w7.cell? ⟨gb491, 2, none⟩ = some (.string a0_2) := (blk_cell BK491.out 2).trans rfl; have hcz8_3 : w7.cell? ⟨gb491, 3, none⟩ = some (.slice A0_3 l0_3.length c0_3) := (blk_cell BK491.out 3).trans rfl; have hfz8_0 := blk_frozen BK491.out 0; have hfz8_1 := blk_frozen BK491.out 1; have hfz8_2 := blk_frozen BK491.out 2; have hfz8_3 := blk_frozen BK491.out 3) | ((with_reducible refine gate_callee (f := 56) rfl ?_); refine gl (some 7) Try.func56 #[.agg #[.int .i64 a0_0, .int .i64 a0_1, .string a0_2, .slice A0_3 l0_3.length c0_3]] ?_; (with_reducible refine (spec_l4Size.calls k a0_0 a0_1 a0_2 _ _ l0_3 t493 _ ?side1 ?side2 A4.out).mono ?_); (case side1 => repeat (first | exact (Kd.C_below HR0_3.out HB.out) | (with_reducible refine Kd.C_alloc ?_ _) | (with_reducible refine Kd.C_drewN ?_ _) | (with_reducible refine Kd.C_drew ?_))); (case side2 => exact HC0_3.out); rintro e w9 ⟨rfl, hb⟩; refine ⟨_, rfl, ?_⟩; have n0_ := Aside0.mk (blk_below (g := gb491) (o := .cells #[.int .i64 a0_0, .int .i64 a0_1, .string a0_2, .slice A0_3 l0_3.length c0_3] 54 (0, 0)) (by exact bk BK491.out) hb); have n1_ := Aside0.mk (below_step (by exact bw HB.out) hb); clear BK491; clear HB; have BK491 := n0_; have HB := n1_; clear n0_ n1_; (try clear hb); (try clear hb2); (try clear hk); (try clear hi)))
  go_ret
  exact ⟨by first | rfl | (simp [errW_none, errW_some] <;> rfl) | (simp [*, errW_none, errW_some] <;> rfl), by exact bw HB.out⟩
 ·
  replace c3 := Bool.eq_false_iff.mpr c3
  subst c3
  have H1 : (some 0) = some r := by rw [if_neg (show ¬ (false = true) by decide)] at H; exact H
  clear H
  have H := H1
  clear H1
  obtain rfl := Option.some.inj H
  go_enter Try.func39, Try.ntmps39
  go_wp2_with (first | ((with_reducible refine gate_dst (N := 1) rfl ?_); refine box_event ?hg (N := 1) ?hd (cs := #[.int .i64 a0_0, .int .i64 a0_1, .string a0_2, .slice A0_3 l0_3.length c0_3]) (t := 54) ?hr ?_; (case hd => rfl); (case hg => rfl); (case hr => first | (go_simp; done) | (go_simp; rfl)); intro gb491 hg w10 hbox hb; have n0_ := Aside0.mk (below_step (by exact bw HB.out) hb); have n1_ := Aside0.mk (hbox); have n2_ := Aside0.mk ((by rw [hg]; exact (below_size (by exact bw HB.out)) : w.heap.size ≤ gb491)); have n3_ := Aside0.mk ((by rw [hg]; exact (below_size (by exact bw HB.out)) : w.heap.size ≤ gb491)); clear HB; have HB := n0_; have BK491 := n1_; have GW491 := n2_; have GE491 := n3_; clear n0_ n1_ n2_ n3_; clear hb hbox hg; have hcz11_0 : w10.cell? ⟨gb491, 0, none⟩ = some (.int .i64 a0_0) := (blk_cell BK491.out 0).trans rfl; have hcz11_1 : w10.cell? ⟨gb491, 1, none⟩ = some (.int .i64 a0_1) := (blk_cell BK491.out 1).trans rfl; have hcz11_2 : w10.cell? ⟨gb491, 2, none⟩ = some (.string a0_2) := (blk_cell BK491.out 2).trans rfl; have hcz11_3 : w10.cell? ⟨gb491, 3, none⟩ = some (.slice A0_3 l0_3.length c0_3) := (blk_cell BK491.out 3).trans rfl; have hfz11_0 := blk_frozen BK491.out 0; have hfz11_1 := blk_frozen BK491.out 1; have hfz11_2 := blk_frozen BK491.out 2; have hfz11_3 := blk_frozen BK491.out 3) | ((with_reducible refine gate_callee (f := 37) rfl ?_); refine gl (some 4) Try.func37 #[.agg #[.int .i64 a0_0, .int .i64 a0_1, .string a0_2, .slice A0_3 l0_3.length c0_3]] ?_; (with_reducible refine (spec_ExprValid.calls k a0_0 a0_1 a0_2 _ _ l0_3 false _ ?side1 ?side2 A2.out).mono ?_); (case side1 => repeat (first | exact (Kd.C_below HR0_3.out HB.out) | (with_reducible refine Kd.C_alloc ?_ _) | (with_reducible refine Kd.C_drewN ?_ _) | (with_reducible refine Kd.C_drew ?_))); (case side2 => exact HC0_3.out); rintro e w12 ⟨rfl, hb⟩; refine ⟨_, rfl, ?_⟩; have n0_ := Aside0.mk (blk_below (g := gb491) (o := .cells #[.int .i64 a0_0, .int .i64 a0_1, .string a0_2, .slice A0_3 l0_3.length c0_3] 54 (0, 0)) (by exact bk BK491.out) hb); have n1_ := Aside0.mk (below_step (by exact bw HB.out) hb); clear BK491; clear HB; have BK491 := n0_; have HB := n1_; clear n0_ n1_; (try clear hb); (try clear hb2); (try clear hk); (try clear hi)))
  go_ret
  exact ⟨by first | rfl | (simp [errW_none, errW_some] <;> rfl) | (simp [*, errW_none, errW_some] <;> rfl), by exact bw HB.out⟩

/-! ### impl_ExprSize: function 40 -/
def impl_ExprSize.f (k : Nat) (a0_0 : Int) (a0_1 : Int) (a0_2 : ByteArray) (l0_3 : List (S54)) : Option (Int) := (impl_ExprValid.f k a0_0 a0_1 a0_2 l0_3).bind fun t495 => (if t495 = true then ((impl_Expr_size.f k a0_0 a0_1 a0_2 l0_3 7).bind fun t496 => (some t496)) else (some 0))
theorem impl_ExprSize.mono : ∀ a0 a1 a2 a3 k, LeO (impl_ExprSize.f k a0 a1 a2 a3) (impl_ExprSize.f (k + 1) a0 a1 a2 a3) := by
 intro a0 a1 a2 a3 k
 unfold impl_ExprSize.f
 repeat' first
   | (with_reducible exact impl_ExprValid.mono _ _ _ _ _)
   | (with_reducible exact impl_Expr_size.mono _ _ _ _ _ _)
   | (with_reducible exact LeO.refl _)
   | (with_reducible exact LeO.none _)
   | (with_reducible refine LeO.ite ?_ ?_)
   | (with_reducible refine LeO.bind ?_ (fun _ => ?_))
   | exact impl_ExprValid.mono _ _ _ _ _
   | exact impl_Expr_size.mono _ _ _ _ _ _
   | exact LeO.none _
   | refine LeO.ite ?_ ?_
   | refine LeO.bind ?_ (fun _ => ?_)
set_option maxHeartbeats 8000000 in
set_option maxRecDepth 100000 in
theorem impl_ExprSize.calls (k : Nat) (a0_0 : Int) (a0_1 : Int) (a0_2 : ByteArray) (A0_3 : Option Addr) (c0_3 : Nat) (l0_3 : List (S54)) (r : Int) (w : World) (hr0_3 : Kd.C k54 w A0_3 l0_3.length l0_3) (hc0_3 : l0_3.length ≤ c0_3) (h : impl_ExprSize.f k a0_0 a0_1 a0_2 l0_3 = some r) :
  Calls Try.prog 40 #[.agg #[.int .i64 a0_0, .int .i64 a0_1, .string a0_2, .slice A0_3 l0_3.length c0_3]] w fun e w' => e = .returned (.int .i64 r) ∧ Below w.heap.size w w' := by
 have hu54 := Try.underlying54
 have HR0_3 := Aside0.mk hr0_3
 have HC0_3 := Aside0.mk hc0_3
 clear hr0_3 hc0_3
 have HB := Aside0.mk (Below.refl w.heap.size w)
 have H : ((impl_ExprValid.f k a0_0 a0_1 a0_2 l0_3).bind fun t495 => (if t495 = true then ((impl_Expr_size.f k a0_0 a0_1 a0_2 l0_3 7).bind fun t496 => (some t496)) else (some 0))) = some r := h
 clear h
 replace H := Option.bind_eq_some_iff.mp H
 obtain ⟨t495, A20, H⟩ := H
 replace H : (if t495 = true then ((impl_Expr_size.f k a0_0 a0_1 a0_2 l0_3 7).bind fun t496 => (some t496)) else (some 0)) = some r := H
 have A2 := Aside0.mk A20
 clear A20
 by_cases c3 : t495 = true
 ·
  subst c3
  have H1 : ((impl_Expr_size.f k a0_0 a0_1 a0_2 l0_3 7).bind fun t496 => (some t496)) = some r := by rw [if_pos rfl] at H; exact H
  clear H
  have H := H1
  clear H1
  replace H := Option.bind_eq_some_iff.mp H
  obtain ⟨t496, A40, H⟩ := H
  replace H : (some t496) = some r := H
  have A4 := Aside0.mk A40
  clear A40
  obtain rfl := Option.some.inj H
  go_enter Try.func40, Try.ntmps40
  go_wp2_with (first | ((with_reducible refine gate_dst (N := 1) rfl ?_); refine box_event ?hg (N := 1) ?hd (cs := #[.int .i64 a0_0, .int .i64 a0_1, .string a0_2, .slice A0_3 l0_3.length c0_3]) (t := 54) ?hr ?_; (case hd => rfl); (case hg => rfl); (case hr => first | (go_simp; done) | (go_simp; rfl)); intro gb494 hg w5 hbox hb; have n0_ := Aside0.mk (below_step (by exact bw HB.out) hb); have n1_ := Aside0.mk (hbox); have n2_ := Aside0.mk ((by rw [hg]; exact (below_size (by exact bw HB.out)) : w.heap.size ≤ gb494)); have n3_ := Aside0.mk ((by rw [hg]; exact (below_size (by exact bw HB.out)) : w.heap.size ≤ gb494)); clear HB; have HB := n0_; have BK494 := n1_; have GW494 := n2_; have GE494 := n3_; clear n0_ n1_ n2_ n3_; clear hb hbox hg; have hcz6_0 : w5.cell? ⟨gb494, 0, none⟩ = some (.int .i64 a0_0) := (blk_cell BK494.out 0).trans rfl; have hcz6_1 : w5.cell? ⟨gb494, 1, none⟩ = some (.int .i64 a0_1) := (blk_cell BK494.out 1).trans rfl; have hcz6_2 : w5.cell? ⟨gb494, 2, none⟩ = some (.string a0_2) := (blk_cell BK494.out 2).trans rfl; have hcz6_3 : w5.cell? ⟨gb494, 3, none⟩ = some (.slice A0_3 l0_3.length c0_3) := (blk_cell BK494.out 3).trans rfl; have hfz6_0 := blk_frozen BK494.out 0; have hfz6_1 := blk_frozen BK494.out 1; have hfz6_2 := blk_frozen BK494.out 2; have hfz6_3 := blk_frozen BK494.out 3) | ((with_reducible refine gate_callee (f := 38) rfl ?_); refine gl (some 4) Try.func38 #[.agg #[.int .i64 a0_0, .int .i64 a0_1, .string a0_2, .slice A0_3 l0_3.length c0_3]] ?_; (with_reducible refine (impl_ExprValid.calls k a0_0 a0_1 a0_2 _ _ l0_3 true _ ?side1 ?side2 A2.out).mono ?_); (case side1 => repeat (first | exact (Kd.C_below HR0_3.out HB.out) | (with_reducible refine Kd.C_alloc ?_ _) | (with_reducible refine Kd.C_drewN ?_ _) | (with_reducible refine Kd.C_drew ?_))); (case side2 => exact HC0_3.out); rintro e w7 ⟨rfl, hb⟩; refine ⟨_, rfl, ?_⟩; have n0_ := Aside0.mk (blk_below (g := gb494) (o := .cells #[.int .i64 a0_0, .int .i64 a0_1, .string a0_2, .slice A0_3 l0_3.length c0_3] 54 (0, 0)) (by exact bk BK494.out) hb); have n1_ := Aside0.mk (below_step (by exact bw HB.out) hb); clear BK494; clear HB; have BK494 := n0_; have HB := n1_; clear n0_ n1_; (try clear hb); (try clear hb2); (try clear hk); (try clear hi); have hcz8_0 : w7.cell? ⟨gb494, 0, none⟩ = some (.int .i64 a0_0) := (blk_cell BK494.out 0).trans rfl; have hcz8_1 : w7.cell? ⟨gb494, 1, none⟩ = some (.int .i64 a0_1) := (blk_cell BK494.out 1).trans rfl; have hcz8_2 : w7.cell? ⟨gb494, 2, none⟩ = some (.string a0_2) := (blk_cell BK494.out 2).trans rfl; have hcz8_3 : w7.cell? ⟨gb494, 3, none⟩ = some (.slice A0_3 l0_3.length c0_3) := (blk_cell BK494.out 3).trans rfl; have hfz8_0 := blk_frozen BK494.out 0; have hfz8_1 := blk_frozen BK494.out 1; have hfz8_2 := blk_frozen BK494.out 2; have hfz8_3 := blk_frozen BK494.out 3) | ((with_reducible refine gate_callee (f := 58) rfl ?_); refine gl (some 7) Try.func58 #[.agg #[.int .i64 a0_0, .int .i64 a0_1, .string a0_2, .slice A0_3 l0_3.length c0_3], .int .i64 7] ?_; (with_reducible refine (impl_Expr_size.calls k a0_0 a0_1 a0_2 _ _ l0_3 7 t496 _ ?side1 ?side2 A4.out).mono ?_); (case side1 => repeat (first | exact (Kd.C_below HR0_3.out HB.out) | (with_reducible refine Kd.C_alloc ?_ _) | (with_reducible refine Kd.C_drewN ?_ _) | (with_reducible refine Kd.C_drew ?_))); (case side2 => exact HC0_3.out); rintro e w9 ⟨rfl, hb⟩; refine ⟨_, rfl, ?_⟩; have n0_ := Aside0.mk (blk_below (g := gb494) (o := .cells #[.int .i64 a0_0, .int .i64 a0_1, .string a0_2, .slice A0_3 l0_3.length c0_3] 54 (0, 0)) (by exact bk BK494.out) hb); have n1_ := Aside0.mk (below_step (by exact bw HB.out) hb); clear BK494; clear HB; have BK494 := n0_; have HB := n1_; clear n0_ n1_; (try clear hb); (try clear hb2); (try clear hk); (try clear hi)))
  go_ret
  exact ⟨by first | rfl | (simp [errW_none, errW_some] <;> rfl) | (simp [*, errW_none, errW_some] <;> rfl), by exact bw HB.out⟩
 ·
  replace c3 := Bool.eq_false_iff.mpr c3
  subst c3
  have H1 : (some 0) = some r := by rw [if_neg (show ¬ (false = true) by decide)] at H; exact H
  clear H
  have H := H1
  clear H1
  obtain rfl := Option.some.inj H
  go_enter Try.func40, Try.ntmps40
  go_wp2_with (first | ((with_reducible refine gate_dst (N := 1) rfl ?_); refine box_event ?hg (N := 1) ?hd (cs := #[.int .i64 a0_0, .int .i64 a0_1, .string a0_2, .slice A0_3 l0_3.length c0_3]) (t := 54) ?hr ?_; (case hd => rfl); (case hg => rfl); (case hr => first | (go_simp; done) | (go_simp; rfl)); intro gb494 hg w10 hbox hb; have n0_ := Aside0.mk (below_step (by exact bw HB.out) hb); have n1_ := Aside0.mk (hbox); have n2_ := Aside0.mk ((by rw [hg]; exact (below_size (by exact bw HB.out)) : w.heap.size ≤ gb494)); have n3_ := Aside0.mk ((by rw [hg]; exact (below_size (by exact bw HB.out)) : w.heap.size ≤ gb494)); clear HB; have HB := n0_; have BK494 := n1_; have GW494 := n2_; have GE494 := n3_; clear n0_ n1_ n2_ n3_; clear hb hbox hg; have hcz11_0 : w10.cell? ⟨gb494, 0, none⟩ = some (.int .i64 a0_0) := (blk_cell BK494.out 0).trans rfl; have hcz11_1 : w10.cell? ⟨gb494, 1, none⟩ = some (.int .i64 a0_1) := (blk_cell BK494.out 1).trans rfl; have hcz11_2 : w10.cell? ⟨gb494, 2, none⟩ = some (.string a0_2) := (blk_cell BK494.out 2).trans rfl; have hcz11_3 : w10.cell? ⟨gb494, 3, none⟩ = some (.slice A0_3 l0_3.length c0_3) := (blk_cell BK494.out 3).trans rfl; have hfz11_0 := blk_frozen BK494.out 0; have hfz11_1 := blk_frozen BK494.out 1; have hfz11_2 := blk_frozen BK494.out 2; have hfz11_3 := blk_frozen BK494.out 3) | ((with_reducible refine gate_callee (f := 38) rfl ?_); refine gl (some 4) Try.func38 #[.agg #[.int .i64 a0_0, .int .i64 a0_1, .string a0_2, .slice A0_3 l0_3.length c0_3]] ?_; (with_reducible refine (impl_ExprValid.calls k a0_0 a0_1 a0_2 _ _ l0_3 false _ ?side1 ?side2 A2.out).mono ?_); (case side1 => repeat (first | exact (Kd.C_below HR0_3.out HB.out) | (with_reducible refine Kd.C_alloc ?_ _) | (with_reducible refine Kd.C_drewN ?_ _) | (with_reducible refine Kd.C_drew ?_))); (case side2 => exact HC0_3.out); rintro e w12 ⟨rfl, hb⟩; refine ⟨_, rfl, ?_⟩; have n0_ := Aside0.mk (blk_below (g := gb494) (o := .cells #[.int .i64 a0_0, .int .i64 a0_1, .string a0_2, .slice A0_3 l0_3.length c0_3] 54 (0, 0)) (by exact bk BK494.out) hb); have n1_ := Aside0.mk (below_step (by exact bw HB.out) hb); clear BK494; clear HB; have BK494 := n0_; have HB := n1_; clear n0_ n1_; (try clear hb); (try clear hb2); (try clear hk); (try clear hi)))
  go_ret
  exact ⟨by first | rfl | (simp [errW_none, errW_some] <;> rfl) | (simp [*, errW_none, errW_some] <;> rfl), by exact bw HB.out⟩

/-! ### laws_FnExactExprSize: function 13 -/
def laws_FnExactExprSize.f (k : Nat) (a0_0 : Int) (a0_1 : Int) (a0_2 : ByteArray) (l0_3 : List (S49)) : Option (Bool) := (laws_szExpr.f k a0_0 a0_1 a0_2 l0_3 1048576).bind fun t498 => (if t498 < 0 then (some true) else ((laws_toExpr.f k a0_0 a0_1 a0_2 l0_3).bind fun bt499 => ((spec_ExprSize.f k bt499.1 bt499.2.1 bt499.2.2.1 bt499.2.2.2).bind fun t505 => ((laws_toExpr.f k a0_0 a0_1 a0_2 l0_3).bind fun bt506 => ((impl_ExprSize.f k bt506.1 bt506.2.1 bt506.2.2.1 bt506.2.2.2).bind fun t513 => (if t513 = t505 then ((laws_toExpr.f k a0_0 a0_1 a0_2 l0_3).bind fun bt514 => ((laws_eqExpr.f k bt506.1 bt506.2.1 bt506.2.2.1 bt506.2.2.2 bt514.1 bt514.2.1 bt514.2.2.1 bt514.2.2.2).bind fun t520 => (if t520 = true then (some true) else (some false)))) else (some false)))))))
theorem laws_FnExactExprSize.mono : ∀ a0 a1 a2 a3 k, LeO (laws_FnExactExprSize.f k a0 a1 a2 a3) (laws_FnExactExprSize.f (k + 1) a0 a1 a2 a3) := by
 intro a0 a1 a2 a3 k
 unfold laws_FnExactExprSize.f
 repeat' first
   | (with_reducible exact impl_ExprSize.mono _ _ _ _ _)
   | (with_reducible exact laws_eqExpr.mono _ _ _ _ _ _ _ _ _)
   | (with_reducible exact laws_szExpr.mono _ _ _ _ _ _)
   | (with_reducible exact laws_toExpr.mono _ _ _ _ _)
   | (with_reducible exact spec_ExprSize.mono _ _ _ _ _)
   | (with_reducible exact LeO.refl _)
   | (with_reducible exact LeO.none _)
   | (with_reducible refine LeO.ite ?_ ?_)
   | (with_reducible refine LeO.bind ?_ (fun _ => ?_))
   | exact impl_ExprSize.mono _ _ _ _ _
   | exact laws_eqExpr.mono _ _ _ _ _ _ _ _ _
   | exact laws_szExpr.mono _ _ _ _ _ _
   | exact laws_toExpr.mono _ _ _ _ _
   | exact spec_ExprSize.mono _ _ _ _ _
   | exact LeO.none _
   | refine LeO.ite ?_ ?_
   | refine LeO.bind ?_ (fun _ => ?_)
set_option maxHeartbeats 8000000 in
set_option maxRecDepth 100000 in
theorem laws_FnExactExprSize.calls (k : Nat) (a0_0 : Int) (a0_1 : Int) (a0_2 : ByteArray) (A0_3 : Option Addr) (c0_3 : Nat) (l0_3 : List (S49)) (r : Bool) (w : World) (hr0_3 : Kd.C k49 w A0_3 l0_3.length l0_3) (hc0_3 : l0_3.length ≤ c0_3) (h : laws_FnExactExprSize.f k a0_0 a0_1 a0_2 l0_3 = some r) :
  Calls Try.prog 13 #[.agg #[.int .i64 a0_0, .int .i64 a0_1, .string a0_2, .slice A0_3 l0_3.length c0_3]] w fun e w' => e = .returned (.bool r) ∧ Below w.heap.size w w' := by
 have hu49 := Try.underlying49
 have hu54 := Try.underlying54
 have HR0_3 := Aside0.mk hr0_3
 have HC0_3 := Aside0.mk hc0_3
 clear hr0_3 hc0_3
 have HB := Aside0.mk (Below.refl w.heap.size w)
 have H : ((laws_szExpr.f k a0_0 a0_1 a0_2 l0_3 1048576).bind fun t498 => (if t498 < 0 then (some true) else ((laws_toExpr.f k a0_0 a0_1 a0_2 l0_3).bind fun bt499 => ((spec_ExprSize.f k bt499.1 bt499.2.1 bt499.2.2.1 bt499.2.2.2).bind fun t505 => ((laws_toExpr.f k a0_0 a0_1 a0_2 l0_3).bind fun bt506 => ((impl_ExprSize.f k bt506.1 bt506.2.1 bt506.2.2.1 bt506.2.2.2).bind fun t513 => (if t513 = t505 then ((laws_toExpr.f k a0_0 a0_1 a0_2 l0_3).bind fun bt514 => ((laws_eqExpr.f k bt506.1 bt506.2.1 bt506.2.2.1 bt506.2.2.2 bt514.1 bt514.2.1 bt514.2.2.1 bt514.2.2.2).bind fun t520 => (if t520 = true then (some true) else (some false)))) else (some false)))))))) = some r := h
 clear h
 replace H := Option.bind_eq_some_iff.mp H
 obtain ⟨t498, A20, H⟩ := H
 replace H : (if t498 < 0 then (some true) else ((laws_toExpr.f k a0_0 a0_1 a0_2 l0_3).bind fun bt499 => ((spec_ExprSize.f k bt499.1 bt499.2.1 bt499.2.2.1 bt499.2.2.2).bind fun t505 => ((laws_toExpr.f k a0_0 a0_1 a0_2 l0_3).bind fun bt506 => ((impl_ExprSize.f k bt506.1 bt506.2.1 bt506.2.2.1 bt506.2.2.2).bind fun t513 => (if t513 = t505 then ((laws_toExpr.f k a0_0 a0_1 a0_2 l0_3).bind fun bt514 => ((laws_eqExpr.f k bt506.1 bt506.2.1 bt506.2.2.1 bt506.2.2.2 bt514.1 bt514.2.1 bt514.2.2.1 bt514.2.2.2).bind fun t520 => (if t520 = true then (some true) else (some false)))) else (some false))))))) = some r := H
 have A2 := Aside0.mk A20
 clear A20
 have HC3 := Aside0.mk H
 clear H
 go_enter Try.func13, Try.ntmps13
 go_upto_if 11 with (first | ((with_reducible refine gate_dst (N := 1) rfl ?_); refine box_event ?hg (N := 1) ?hd (cs := #[.int .i64 a0_0, .int .i64 a0_1, .string a0_2, .slice A0_3 l0_3.length c0_3]) (t := 49) ?hr ?_; (case hd => rfl); (case hg => rfl); (case hr => first | (go_simp; done) | (go_simp; rfl)); intro gb497 hg w4 hbox hb; have n0_ := Aside0.mk (below_step (by exact bw HB.out) hb); have n1_ := Aside0.mk (hbox); have n2_ := Aside0.mk ((by rw [hg]; exact (below_size (by exact bw HB.out)) : w.heap.size ≤ gb497)); have n3_ := Aside0.mk ((by rw [hg]; exact (below_size (by exact bw HB.out)) : w.heap.size ≤ gb497)); clear HB; have HB := n0_; have BK497 := n1_; have GW497 := n2_; have GE497 := n3_; clear n0_ n1_ n2_ n3_; clear hb hbox hg; have hcz5_0 : w4.cell? ⟨gb497, 0, none⟩ = some (.int .i64 a0_0) := (blk_cell BK497.out 0).trans rfl; have hcz5_1 : w4.cell? ⟨gb497, 1, none⟩ = some (.int .i64 a0_1) := (blk_cell BK497.out 1).trans rfl; have hcz5_2 : w4.cell? ⟨gb497, 2, none⟩ = some (.string a0_2) := (blk_cell BK497.out 2).trans rfl; have hcz5_3 : w4.cell? ⟨gb497, 3, none⟩ = some (.slice A0_3 l0_3.length c0_3) := (blk_cell BK497.out 3).trans rfl; have hfz5_0 := blk_frozen BK497.out 0; have hfz5_1 := blk_frozen BK497.out 1; have hfz5_2 := blk_frozen BK497.out 2; have hfz5_3 := blk_frozen BK497.out 3) | ((with_reducible refine gate_callee (f := 32) rfl ?_); refine gl (some 9) Try.func32 #[.agg #[.int .i64 a0_0, .int .i64 a0_1, .string a0_2, .slice A0_3 l0_3.length c0_3], .int .i64 1048576] ?_; (with_reducible refine (laws_szExpr.calls k a0_0 a0_1 a0_2 _ _ l0_3 1048576 t498 _ ?side1 ?side2 A2.out).mono ?_); (case side1 => repeat (first | exact (Kd.C_below HR0_3.out HB.out) | (with_reducible refine Kd.C_alloc ?_ _) | (with_reducible refine Kd.C_drewN ?_ _) | (with_reducible refine Kd.C_drew ?_))); (case side2 => exact HC0_3.out); rintro e w6 ⟨rfl, hb⟩; refine ⟨_, rfl, ?_⟩; have n0_ := Aside0.mk (blk_below (g := gb497) (o := .cells #[.int .i64 a0_0, .int .i64 a0_1, .string a0_2, .slice A0_3 l0_3.length c0_3] 49 (0, 0)) (by exact bk BK497.out) hb); have n1_ := Aside0.mk (below_step (by exact bw HB.out) hb); clear BK497; clear HB; have BK497 := n0_; have HB := n1_; clear n0_ n1_; (try clear hb); (try clear hb2); (try clear hk); (try clear hi)))
 (try simp only [Act.put, List.setIfInBounds_toArray, List.set_cons_zero, List.set_cons_succ])
 have H := HC3.out
 clear HC3
 by_cases c7 : t498 < 0
 ·
  rw [if_pos c7] at H
  have c7b0 : decide (t498 < 0) = true := decide_eq_true c7
  clear c7
  (first | rw [c7b0] | (simp only [i64_w, i32_w]; rw [c7b0]) | rw [c7b2] | rw [c7b1] | skip)
  obtain rfl := Option.some.inj H
  go_wp2
  go_ret
  exact ⟨by first | rfl | (simp [errW_none, errW_some] <;> rfl) | (simp [*, errW_none, errW_some] <;> rfl), by exact bw HB.out⟩
 ·
  rw [if_neg c7] at H
  have c7b0 : decide (t498 < 0) = false := decide_eq_false c7
  clear c7
  (first | rw [c7b0] | (simp only [i64_w, i32_w]; rw [c7b0]) | rw [c7b2] | rw [c7b1] | skip)
  replace H := Option.bind_eq_some_iff.mp H
  obtain ⟨⟨t499, t500, t501, t502⟩, A80, H⟩ := H
  replace H : ((spec_ExprSize.f k t499 t500 t501 t502).bind fun t505 => ((laws_toExpr.f k a0_0 a0_1 a0_2 l0_3).bind fun bt506 => ((impl_ExprSize.f k bt506.1 bt506.2.1 bt506.2.2.1 bt506.2.2.2).bind fun t513 => (if t513 = t505 then ((laws_toExpr.f k a0_0 a0_1 a0_2 l0_3).bind fun bt514 => ((laws_eqExpr.f k bt506.1 bt506.2.1 bt506.2.2.1 bt506.2.2.2 bt514.1 bt514.2.1 bt514.2.2.1 bt514.2.2.2).bind fun t520 => (if t520 = true then (some true) else (some false)))) else (some false))))) = some r := H
  have A8 := Aside0.mk A80
  clear A80
  replace H := Option.bind_eq_some_iff.mp H
  obtain ⟨t505, A90, H⟩ := H
  replace H : ((laws_toExpr.f k a0_0 a0_1 a0_2 l0_3).bind fun bt506 => ((impl_ExprSize.f k bt506.1 bt506.2.1 bt506.2.2.1 bt506.2.2.2).bind fun t513 => (if t513 = t505 then ((laws_toExpr.f k a0_0 a0_1 a0_2 l0_3).bind fun bt514 => ((laws_eqExpr.f k bt506.1 bt506.2.1 bt506.2.2.1 bt506.2.2.2 bt514.1 bt514.2.1 bt514.2.2.1 bt514.2.2.2).bind fun t520 => (if t520 = true then (some true) else (some false)))) else (some false)))) = some r := H
  have A9 := Aside0.mk A90
  clear A90
  replace H := Option.bind_eq_some_iff.mp H
  obtain ⟨⟨t506, t507, t508, t509⟩, A100, H⟩ := H
  replace H : ((impl_ExprSize.f k t506 t507 t508 t509).bind fun t513 => (if t513 = t505 then ((laws_toExpr.f k a0_0 a0_1 a0_2 l0_3).bind fun bt514 => ((laws_eqExpr.f k t506 t507 t508 t509 bt514.1 bt514.2.1 bt514.2.2.1 bt514.2.2.2).bind fun t520 => (if t520 = true then (some true) else (some false)))) else (some false))) = some r := H
  have A10 := Aside0.mk A100
  clear A100
  replace H := Option.bind_eq_some_iff.mp H
  obtain ⟨t513, A110, H⟩ := H
  replace H : (if t513 = t505 then ((laws_toExpr.f k a0_0 a0_1 a0_2 l0_3).bind fun bt514 => ((laws_eqExpr.f k t506 t507 t508 t509 bt514.1 bt514.2.1 bt514.2.2.1 bt514.2.2.2).bind fun t520 => (if t520 = true then (some true) else (some false)))) else (some false)) = some r := H
  have A11 := Aside0.mk A110
  clear A110
  have HC12 := Aside0.mk H
  clear H
  have hcz13_0 : w6.cell? ⟨gb497, 0, none⟩ = some (.int .i64 a0_0) := (blk_cell BK497.out 0).trans rfl
  have hcz13_1 : w6.cell? ⟨gb497, 1, none⟩ = some (.int .i64 a0_1) := (blk_cell BK497.out 1).trans rfl
  have hcz13_2 : w6.cell? ⟨gb497, 2, none⟩ = some (.string a0_2) := (blk_cell BK497.out 2).trans rfl
  have hcz13_3 : w6.cell? ⟨gb497, 3, none⟩ = some (.slice A0_3 l0_3.length c0_3) := (blk_cell BK497.out 3).trans rfl
  have hfz13_0 := blk_frozen BK497.out 0
  have hfz13_1 := blk_frozen BK497.out 1
  have hfz13_2 := blk_frozen BK497.out 2
  have hfz13_3 := blk_frozen BK497.out 3
  go_upto_if 21 with (first | ((with_reducible refine gate_callee (f := 34) rfl ?_); refine gl (some 13) Try.func34 #[.agg #[.int .i64 a0_0, .int .i64 a0_1, .string a0_2, .slice A0_3 l0_3.length c0_3]] ?_; (with_reducible refine (laws_toExpr.calls k a0_0 a0_1 a0_2 _ _ l0_3 t499 t500 t501 t502 _ ?side1 ?side2 A8.out).mono ?_); (case side1 => repeat (first | exact (Kd.C_below HR0_3.out HB.out) | (with_reducible refine Kd.C_alloc ?_ _) | (with_reducible refine Kd.C_drewN ?_ _) | (with_reducible refine Kd.C_drew ?_))); (case side2 => exact HC0_3.out); rintro e w14 ⟨v503, rfl, ho0, hb⟩; refine ⟨_, rfl, ?_⟩; have n0_ := Aside0.mk (Kd.R_lower ho0 (below_size (by exact bw HB.out))); have n1_ := Aside0.mk (blk_below (g := gb497) (o := .cells #[.int .i64 a0_0, .int .i64 a0_1, .string a0_2, .slice A0_3 l0_3.length c0_3] 49 (0, 0)) (by exact bk BK497.out) hb); have n2_ := Aside0.mk (below_step (by exact bw HB.out) hb); clear BK497; clear HB; have HO504 := n0_; have BK497 := n1_; have HB := n2_; clear n0_ n1_ n2_; (try clear hb); (try clear hb2); (try clear hk); (try clear hi); (try clear ho0); obtain ⟨Ao15, co15, eo15⟩ := Kd.R_slice HO504.out; subst eo15) | ((with_reducible refine gate_callee (f := 39) rfl ?_); refine gl (some 14) Try.func39 #[.agg #[.int .i64 t499, .int .i64 t500, .string t501, .slice Ao15 t502.length co15]] ?_; (with_reducible refine (spec_ExprSize.calls k t499 t500 t501 _ _ t502 t505 _ ?side1 ?side2 A9.out).mono ?_); (case side1 => repeat (first | exact (Kd.R_reads' HO504.out).2.2 | (with_reducible refine Kd.C_alloc ?_ _) | (with_reducible refine Kd.C_drewN ?_ _) | (with_reducible refine Kd.C_drew ?_))); (case side2 => exact (Kd.R_reads' HO504.out).2.1); rintro e w16 ⟨rfl, hb⟩; refine ⟨_, rfl, ?_⟩; have n0_ := Aside0.mk (Kd.R_below (by exact Kd.xR HO504.out) hb); have n1_ := Aside0.mk (blk_below (g := gb497) (o := .cells #[.int .i64 a0_0, .int .i64 a0_1, .string a0_2, .slice A0_3 l0_3.length c0_3] 49 (0, 0)) (by exact bk BK497.out) hb); have n2_ := Aside0.mk (below_step (by exact bw HB.out) hb); clear HO504; clear BK497; clear HB; have HO504 := n0_; have BK497 := n1_; have HB := n2_; clear n0_ n1_ n2_; (try clear hb); (try clear hb2); (try clear hk); (try clear hi); have hcz17_0 : w16.cell? ⟨gb497, 0, none⟩ = some (.int .i64 a0_0) := (blk_cell BK497.out 0).trans rfl; have hcz17_1 : w16.cell? ⟨gb497, 1, none⟩ = some (.int .i64 a0_1) := (blk_cell BK497.out 1).trans rfl; have hcz17_2 : w16.cell? ⟨gb497, 2, none⟩ = some (.string a0_2) := (blk_cell BK497.out 2).trans rfl; have hcz17_3 : w16.cell? ⟨gb497, 3, none⟩ = some (.slice A0_3 l0_3.length c0_3) := (blk_cell BK497.out 3).trans rfl; have hfz17_0 := blk_frozen BK497.out 0; have hfz17_1 := blk_frozen BK497.out 1; have hfz17_2 := blk_frozen BK497.out 2; have hfz17_3 := blk_frozen BK497.out 3) | ((with_reducible refine gate_callee (f := 34) rfl ?_); refine gl (some 16) Try.func34 #[.agg #[.int .i64 a0_0, .int .i64 a0_1, .string a0_2, .slice A0_3 l0_3.length c0_3]] ?_; (with_reducible refine (laws_toExpr.calls k a0_0 a0_1 a0_2 _ _ l0_3 t506 t507 t508 t509 _ ?side1 ?side2 A10.out).mono ?_); (case side1 => repeat (first | exact (Kd.C_below HR0_3.out HB.out) | (with_reducible refine Kd.C_alloc ?_ _) | (with_reducible refine Kd.C_drewN ?_ _) | (with_reducible refine Kd.C_drew ?_))); (case side2 => exact HC0_3.out); rintro e w18 ⟨v510, rfl, ho0, hb⟩; refine ⟨_, rfl, ?_⟩; have n0_ := Aside0.mk (Kd.R_elder' (by exact Kd.xR HO504.out) (Kd.R_base ho0) hb); have n1_ := Aside0.mk (Kd.R_lower (Kd.R_new' ho0 (Kd.R_lt (by exact Kd.xR HO504.out))) (below_size (by exact bw HB.out))); have n2_ := Aside0.mk (blk_below (g := gb497) (o := .cells #[.int .i64 a0_0, .int .i64 a0_1, .string a0_2, .slice A0_3 l0_3.length c0_3] 49 (0, 0)) (by exact bk BK497.out) hb); have n3_ := Aside0.mk (below_step (by exact bw HB.out) hb); clear HO504; clear BK497; clear HB; have HO504 := n0_; have HO511 := n1_; have BK497 := n2_; have HB := n3_; clear n0_ n1_ n2_ n3_; (try clear hb); (try clear hb2); (try clear hk); (try clear hi); (try clear ho0)) | ((with_reducible refine gate_dst (N := 5) rfl ?_); refine box_event ?hg (N := 5) ?hd (cs := #[.int .i64 0, .int .i64 0, .string (⟨#[]⟩ : ByteArray), .slice none 0 0]) (t := 54) ?hr ?_; (case hd => rfl); (case hg => rfl); (case hr => first | (go_simp; done) | (go_simp; rfl)); intro gb512 hg w19 hbox hb; have n0_ := Aside0.mk (Kd.R_below (Kd.R_elderB (by exact Kd.xR HO504.out) gb512 (Nat.le_of_eq hg.symm)) hb); have n1_ := Aside0.mk (Kd.R_below (Kd.R_elderB (by exact Kd.xR HO511.out) gb512 (Nat.le_of_eq hg.symm)) hb); have n2_ := Aside0.mk (blk_below (g := gb497) (o := .cells #[.int .i64 a0_0, .int .i64 a0_1, .string a0_2, .slice A0_3 l0_3.length c0_3] 49 (0, 0)) (by exact bk BK497.out) hb); have n3_ := Aside0.mk (below_step (by exact bw HB.out) hb); have n4_ := Aside0.mk (hbox); have n5_ := Aside0.mk ((by rw [hg]; exact (below_size (by exact bw HB.out)) : w.heap.size ≤ gb512)); have n6_ := Aside0.mk ((by rw [hg]; exact (below_size (by exact bw HB.out)) : w.heap.size ≤ gb512)); have n7_ := Aside0.mk ((by rw [hg]; exact Nat.ne_of_lt (blk_lt (g := gb497) (o := .cells #[.int .i64 a0_0, .int .i64 a0_1, .string a0_2, .slice A0_3 l0_3.length c0_3] 49 (0, 0)) (by exact bk BK497.out)) : gb497 ≠ gb512)); have n8_ := Aside0.mk ((by rw [hg]; exact Nat.ne_of_gt (blk_lt (g := gb497) (o := .cells #[.int .i64 a0_0, .int .i64 a0_1, .string a0_2, .slice A0_3 l0_3.length c0_3] 49 (0, 0)) (by exact bk BK497.out)) : gb512 ≠ gb497)); clear HO504; clear HO511; clear BK497; clear HB; have HO504 := n0_; have HO511 := n1_; have BK497 := n2_; have HB := n3_; have BK512 := n4_; have GW512 := n5_; have GE512 := n6_; have NB497_512 := n7_; have NB512_497 := n8_; clear n0_ n1_ n2_ n3_ n4_ n5_ n6_ n7_ n8_; clear hb hbox hg; have hnb20 := NB512_497.out; have hnc20 := NB497_512.out; have hcz21_0 : w19.cell? ⟨gb512, 0, none⟩ = some (.int .i64 0) := (blk_cell BK512.out 0).trans rfl; have hcz21_1 : w19.cell? ⟨gb512, 1, none⟩ = some (.int .i64 0) := (blk_cell BK512.out 1).trans rfl; have hcz21_2 : w19.cell? ⟨gb512, 2, none⟩ = some (.string (⟨#[]⟩ : ByteArray)) := (blk_cell BK512.out 2).trans rfl; have hcz21_3 : w19.cell? ⟨gb512, 3, none⟩ = some (.slice none 0 0) := (blk_cell BK512.out 3).trans rfl; have hfz21_0 := blk_frozen BK512.out 0; have hfz21_1 := blk_frozen BK512.out 1; have hfz21_2 := blk_frozen BK512.out 2; have hfz21_3 := blk_frozen BK512.out 3; obtain ⟨Ao22, co22, eo22⟩ := Kd.R_slice HO511.out; subst eo22) | ((with_reducible refine gate_callee (f := 40) rfl ?_); refine gl (some 18) Try.func40 #[.agg #[.int .i64 t506, .int .i64 t507, .string t508, .slice Ao22 t509.length co22]] ?_; (with_reducible refine (impl_ExprSize.calls k t506 t507 t508 _ _ t509 t513 _ ?side1 ?side2 A11.out).mono ?_); (case side1 => refine (Kd.R_reads' (e := 54) (base := w.heap.size) (ok := fun k_ => ((True ∧ some k_ ≠ (.slice Ao15 t502.length co15 : Value).ownBlock) ∧ k_ ≠ gb512)) (n := t509.length) (c := co22) ?_).2.2; exact (by (with_reducible repeat (first | apply Kd.R_alloc | apply Kd.R_drewN | apply Kd.R_drew)); exact (Kd.R_mono (Kd.R_far (p := ⟨gb512, 3, none⟩) (Kd.R_far (p := ⟨gb512, 2, none⟩) (Kd.R_far (p := ⟨gb512, 1, none⟩) (Kd.R_far (p := ⟨gb512, 0, none⟩) (Kd.R_mono HO511.out (fun k_ hk => (⟨hk, okp hk⟩ : _ ∧ k_ ≠ gb512))) (fun _ hk => hk.2) (.int .i64 t506)) (fun _ hk => hk.2) (.int .i64 t507)) (fun _ hk => hk.2) (.string t508)) (fun _ hk => hk.2) (.slice Ao22 t509.length co22)) (fun _ h_ => h_.1)))); (case side2 => exact (Kd.R_reads' HO511.out).2.1); rintro e w23 ⟨rfl, hb⟩; refine ⟨_, rfl, ?_⟩; have n0_ := Aside0.mk (Kd.R_below (by (with_reducible repeat (first | apply Kd.R_alloc | apply Kd.R_drewN | apply Kd.R_drew)); exact (Kd.R_mono (Kd.R_far (p := ⟨gb512, 3, none⟩) (Kd.R_far (p := ⟨gb512, 2, none⟩) (Kd.R_far (p := ⟨gb512, 1, none⟩) (Kd.R_far (p := ⟨gb512, 0, none⟩) (Kd.R_mono HO504.out (fun k_ hk => (⟨hk, okp hk⟩ : _ ∧ k_ ≠ gb512))) (fun _ hk => hk.2) (.int .i64 t506)) (fun _ hk => hk.2) (.int .i64 t507)) (fun _ hk => hk.2) (.string t508)) (fun _ hk => hk.2) (.slice Ao22 t509.length co22)) (fun _ h_ => h_.1))) hb); have n1_ := Aside0.mk (Kd.R_below (by (with_reducible repeat (first | apply Kd.R_alloc | apply Kd.R_drewN | apply Kd.R_drew)); exact (Kd.R_mono (Kd.R_far (p := ⟨gb512, 3, none⟩) (Kd.R_far (p := ⟨gb512, 2, none⟩) (Kd.R_far (p := ⟨gb512, 1, none⟩) (Kd.R_far (p := ⟨gb512, 0, none⟩) (Kd.R_mono HO511.out (fun k_ hk => (⟨hk, okp hk⟩ : _ ∧ k_ ≠ gb512))) (fun _ hk => hk.2) (.int .i64 t506)) (fun _ hk => hk.2) (.int .i64 t507)) (fun _ hk => hk.2) (.string t508)) (fun _ hk => hk.2) (.slice Ao22 t509.length co22)) (fun _ h_ => h_.1))) hb); have n2_ := Aside0.mk (blk_below (g := gb497) (o := .cells #[.int .i64 a0_0, .int .i64 a0_1, .string a0_2, .slice A0_3 l0_3.length c0_3] 49 (0, 0)) (by (with_reducible repeat (first | refine blk_drewN ?_ _ | refine blk_drew ?_ | refine blk_alloc ?_ _)); refine blk_far ?_ NB497_512.out _; (with_reducible repeat (first | refine blk_drewN ?_ _ | refine blk_drew ?_ | refine blk_alloc ?_ _)); refine blk_far ?_ NB497_512.out _; (with_reducible repeat (first | refine blk_drewN ?_ _ | refine blk_drew ?_ | refine blk_alloc ?_ _)); refine blk_far ?_ NB497_512.out _; (with_reducible repeat (first | refine blk_drewN ?_ _ | refine blk_drew ?_ | refine blk_alloc ?_ _)); refine blk_far ?_ NB497_512.out _; exact bk BK497.out) hb); have n3_ := Aside0.mk (blk_below (g := gb512) (o := .cells #[.int .i64 t506, .int .i64 t507, .string t508, .slice Ao22 t509.length co22] 54 (0, 0)) (by (with_reducible repeat (first | refine blk_drewN ?_ _ | refine blk_drew ?_ | refine blk_alloc ?_ _)); refine blk_put (cs := #[.int .i64 t506, .int .i64 t507, .string t508, .slice none 0 0]) ?_ 3 _ rfl; (with_reducible repeat (first | refine blk_drewN ?_ _ | refine blk_drew ?_ | refine blk_alloc ?_ _)); refine blk_put (cs := #[.int .i64 t506, .int .i64 t507, .string (⟨#[]⟩ : ByteArray), .slice none 0 0]) ?_ 2 _ rfl; (with_reducible repeat (first | refine blk_drewN ?_ _ | refine blk_drew ?_ | refine blk_alloc ?_ _)); refine blk_put (cs := #[.int .i64 t506, .int .i64 0, .string (⟨#[]⟩ : ByteArray), .slice none 0 0]) ?_ 1 _ rfl; (with_reducible repeat (first | refine blk_drewN ?_ _ | refine blk_drew ?_ | refine blk_alloc ?_ _)); refine blk_put (cs := #[.int .i64 0, .int .i64 0, .string (⟨#[]⟩ : ByteArray), .slice none 0 0]) ?_ 0 _ rfl; exact bk BK512.out) hb); have n4_ := Aside0.mk (below_step (by exact bw HB.out) hb); clear HO504; clear HO511; clear BK497; clear BK512; clear HB; have HO504 := n0_; have HO511 := n1_; have BK497 := n2_; have BK512 := n3_; have HB := n4_; clear n0_ n1_ n2_ n3_ n4_; (try clear hb); (try clear hb2); (try clear hk); (try clear hi)))
  (try simp only [Act.put, List.setIfInBounds_toArray, List.set_cons_zero, List.set_cons_succ])
  have H := HC12.out
  clear HC12
  by_cases c24 : t513 = t505
  ·
   rw [if_pos c24] at H
   have c24b0 : (t513 == t505) = true := beq_iff_eq.mpr c24
   have c24b1 : (t513 != t505) = false := bne_eq_false_iff_eq.mpr c24
   clear c24
   (first | rw [c24b0] | (simp only [i64_w, i32_w]; rw [c24b0]) | rw [c24b2] | rw [c24b1] | skip)
   replace H := Option.bind_eq_some_iff.mp H
   obtain ⟨⟨t514, t515, t516, t517⟩, A250, H⟩ := H
   replace H : ((laws_eqExpr.f k t506 t507 t508 t509 t514 t515 t516 t517).bind fun t520 => (if t520 = true then (some true) else (some false))) = some r := H
   have A25 := Aside0.mk A250
   clear A250
   replace H := Option.bind_eq_some_iff.mp H
   obtain ⟨t520, A260, H⟩ := H
   replace H : (if t520 = true then (some true) else (some false)) = some r := H
   have A26 := Aside0.mk A260
   clear A260
   have HC27 := Aside0.mk H
   clear H
   try go_wp2
   have n0_ := Aside0.mk (Kd.R_drew HO504.out)
   have n1_ := Aside0.mk (Kd.R_drew HO511.out)
   have n2_ := Aside0.mk (blk_drew BK497.out)
   have n3_ := Aside0.mk (blk_drew BK512.out)
   have n4_ := Aside0.mk (below_drew1 HB.out)
   clear HO504
   clear HO511
   clear BK497
   clear BK512
   clear HB
   have HO504 := n0_
   have HO511 := n1_
   have BK497 := n2_
   have BK512 := n3_
   have HB := n4_
   clear n0_ n1_ n2_ n3_ n4_
   refine start_ (n := 5) (S := fun w' => w'.cell? ⟨gb512, 0, none⟩ = some (.int .i64 t506) ∧ w'.cell? ⟨gb512, 1, none⟩ = some (.int .i64 t507) ∧ w'.cell? ⟨gb512, 2, none⟩ = some (.string t508) ∧ w'.cell? ⟨gb512, 3, none⟩ = some (.slice Ao22 t509.length co22) ∧ w'.cell? ⟨gb497, 0, none⟩ = some (.int .i64 a0_0) ∧ w'.cell? ⟨gb497, 1, none⟩ = some (.int .i64 a0_1) ∧ w'.cell? ⟨gb497, 2, none⟩ = some (.string a0_2) ∧ w'.cell? ⟨gb497, 3, none⟩ = some (.slice A0_3 l0_3.length c0_3)) (ds := []) #[false, false, false, false, false] (by kernel_rfl) rfl rfl ⟨(blk_cell BK512.out 0).trans rfl, (blk_cell BK512.out 1).trans rfl, (blk_cell BK512.out 2).trans rfl, (blk_cell BK512.out 3).trans rfl, (blk_cell BK497.out 0).trans rfl, (blk_cell BK497.out 1).trans rfl, (blk_cell BK497.out 2).trans rfl, (blk_cell BK497.out 3).trans rfl⟩ (fun hHeld => ?_)
   generalize w23.drew = w28 at HO504 HO511 BK497 BK512 HB hHeld ⊢
   refine take_ (i := 0) (N := some 22) (v := ?_) (a' := ?_) #[true, false, false, false, false] rfl rfl (by kernel_rfl) (fun _ _ _ h => h) (Or.inl ⟨by rfl, ?_⟩) hHeld ?_ ?_
   rotate_left
   ·
    rintro w' ⟨s0, s1, s2, s3, s4, s5, s6, s7⟩
    go_simp
    with_reducible rfl
   rotate_left
   ·
    simp only [Act.put, List.setIfInBounds_toArray, List.set_cons_zero, List.set_cons_succ, i64_w, i32_w]
    rfl
   refine take_ (i := 1) (N := some 23) (v := ?_) (a' := ?_) #[true, true, false, false, false] rfl rfl (by kernel_rfl) (fun _ _ _ h => h) (Or.inl ⟨by rfl, ?_⟩) hHeld ?_ ?_
   rotate_left
   ·
    rintro w' ⟨s0, s1, s2, s3, s4, s5, s6, s7⟩
    go_simp
    with_reducible rfl
   rotate_left
   ·
    simp only [Act.put, List.setIfInBounds_toArray, List.set_cons_zero, List.set_cons_succ, i64_w, i32_w]
    rfl
   refine one_ (i := 2) (N := some 24) #[true, true, true, false, false] rfl rfl (by kernel_rfl) (by decide) (fun K hK => ?_)
   refine goes_ Try.func34 (by kernel_rfl) rfl #[.agg #[.int .i64 a0_0, .int .i64 a0_1, .string a0_2, .slice A0_3 l0_3.length c0_3]] (by rfl) rfl rfl (by (try simp only [List.map_toArray, List.map_cons, List.map_nil]); first | done | rfl | (simp only [List.length_drop, List.length_take]; rfl)) ?_
   with_reducible refine (laws_toExpr.calls k a0_0 a0_1 a0_2 _ _ l0_3 t514 t515 t516 t517 _ ?side1 ?side2 A25.out).mono ?_
   (case side1 => repeat (first | exact (Kd.C_below HR0_3.out HB.out) | (with_reducible refine Kd.C_alloc ?_ _) | (with_reducible refine Kd.C_drewN ?_ _) | (with_reducible refine Kd.C_drew ?_)))
   (case side2 => exact HC0_3.out)
   rintro e w29 ⟨v518, rfl, ho0, hb⟩
   refine ⟨_, rfl, ?_⟩
   have n0_ := Aside0.mk (Kd.R_elder' (by exact Kd.xR HO504.out) (Kd.R_base ho0) hb)
   have n1_ := Aside0.mk (Kd.R_elder' (by exact Kd.xR HO511.out) (Kd.R_base ho0) hb)
   have n2_ := Aside0.mk (Kd.R_lower (Kd.R_newB (Kd.R_new' (Kd.R_new' ho0 (Kd.R_lt (by exact Kd.xR HO504.out))) (Kd.R_lt (by exact Kd.xR HO511.out))) (g := gb512) (o := .cells #[.int .i64 t506, .int .i64 t507, .string t508, .slice Ao22 t509.length co22] 54 (0, 0)) (by exact bk BK512.out)) (below_size (by exact bw HB.out)))
   have n3_ := Aside0.mk (blk_below (g := gb497) (o := .cells #[.int .i64 a0_0, .int .i64 a0_1, .string a0_2, .slice A0_3 l0_3.length c0_3] 49 (0, 0)) (by exact bk BK497.out) hb)
   have n4_ := Aside0.mk (blk_below (g := gb512) (o := .cells #[.int .i64 t506, .int .i64 t507, .string t508, .slice Ao22 t509.length co22] 54 (0, 0)) (by exact bk BK512.out) hb)
   have n5_ := Aside0.mk (below_step (by exact bw HB.out) hb)
   clear HO504
   clear HO511
   clear BK497
   clear BK512
   clear HB
   have HO504 := n0_
   have HO511 := n1_
   have HO519 := n2_
   have BK497 := n3_
   have BK512 := n4_
   have HB := n5_
   clear n0_ n1_ n2_ n3_ n4_ n5_
   (try clear hb)
   (try clear hb2)
   (try clear hk)
   (try clear hi)
   (try clear ho0)
   obtain ⟨Ao30, co30, eo30⟩ := Kd.R_slice HO519.out
   (first | subst eo30 | (injection eo30 with f1_ f2_ f3_; have f4_ := f1_.symm; have f5_ := f3_.symm; clear f1_ f2_ f3_; subst f4_; subst f5_))
   refine hK.out _ _ ⟨(blk_cell BK512.out 0).trans rfl, (blk_cell BK512.out 1).trans rfl, (blk_cell BK512.out 2).trans rfl, (blk_cell BK512.out 3).trans rfl, (blk_cell BK497.out 0).trans rfl, (blk_cell BK497.out 1).trans rfl, (blk_cell BK497.out 2).trans rfl, (blk_cell BK497.out 3).trans rfl⟩ (fun hHeld => ?_)
   clear hK K
   refine norm_ (a' := ?_) ?_ ?_
   rotate_left
   ·
    show Act.put _ (some 24) _ = _
    simp only [Act.put, List.setIfInBounds_toArray, List.set_cons_zero, List.set_cons_succ, i64_w, i32_w]
    rfl
   refine one_ (i := 3) (N := some 25) #[true, true, true, true, false] rfl rfl (by kernel_rfl) (by decide) (fun K hK => ?_)
   refine goes_ Try.func36 (by kernel_rfl) rfl #[.agg #[.int .i64 t506, .int .i64 t507, .string t508, .slice Ao22 t509.length co22], .agg #[.int .i64 t514, .int .i64 t515, .string t516, .slice Ao30 t517.length co30]] (by rfl) rfl rfl (by (try simp only [List.map_toArray, List.map_cons, List.map_nil]); first | done | rfl | (simp only [List.length_drop, List.length_take]; rfl)) ?_
   with_reducible refine (laws_eqExpr.calls k t506 t507 t508 _ _ t509 t514 t515 t516 _ _ t517 t520 _ ?side1 ?side2 ?side3 ?side4 A26.out).mono ?_
   (case side1 => repeat (first | exact (Kd.R_reads' HO511.out).2.2 | (with_reducible refine Kd.C_alloc ?_ _) | (with_reducible refine Kd.C_drewN ?_ _) | (with_reducible refine Kd.C_drew ?_)))
   (case side2 => exact (Kd.R_reads' HO511.out).2.1)
   (case side3 => repeat (first | exact (Kd.R_reads' HO519.out).2.2 | (with_reducible refine Kd.C_alloc ?_ _) | (with_reducible refine Kd.C_drewN ?_ _) | (with_reducible refine Kd.C_drew ?_)))
   (case side4 => exact (Kd.R_reads' HO519.out).2.1)
   rintro e w31 ⟨rfl, hb⟩
   refine ⟨_, rfl, ?_⟩
   have n0_ := Aside0.mk (Kd.R_below (by exact Kd.xR HO504.out) hb)
   have n1_ := Aside0.mk (Kd.R_below (by exact Kd.xR HO511.out) hb)
   have n2_ := Aside0.mk (Kd.R_below (by exact Kd.xR HO519.out) hb)
   have n3_ := Aside0.mk (blk_below (g := gb497) (o := .cells #[.int .i64 a0_0, .int .i64 a0_1, .string a0_2, .slice A0_3 l0_3.length c0_3] 49 (0, 0)) (by exact bk BK497.out) hb)
   have n4_ := Aside0.mk (blk_below (g := gb512) (o := .cells #[.int .i64 t506, .int .i64 t507, .string t508, .slice Ao22 t509.length co22] 54 (0, 0)) (by exact bk BK512.out) hb)
   have n5_ := Aside0.mk (below_step (by exact bw HB.out) hb)
   clear HO504
   clear HO511
   clear HO519
   clear BK497
   clear BK512
   clear HB
   have HO504 := n0_
   have HO511 := n1_
   have HO519 := n2_
   have BK497 := n3_
   have BK512 := n4_
   have HB := n5_
   clear n0_ n1_ n2_ n3_ n4_ n5_
   (try clear hb)
   (try clear hb2)
   (try clear hk)
   (try clear hi)
   refine hK.out _ _ ⟨(blk_cell BK512.out 0).trans rfl, (blk_cell BK512.out 1).trans rfl, (blk_cell BK512.out 2).trans rfl, (blk_cell BK512.out 3).trans rfl, (blk_cell BK497.out 0).trans rfl, (blk_cell BK497.out 1).trans rfl, (blk_cell BK497.out 2).trans rfl, (blk_cell BK497.out 3).trans rfl⟩ (fun hHeld => ?_)
   clear hK K
   refine norm_ (a' := ?_) ?_ ?_
   rotate_left
   ·
    show Act.put _ (some 25) _ = _
    simp only [Act.put, List.setIfInBounds_toArray, List.set_cons_zero, List.set_cons_succ, i64_w, i32_w]
    rfl
   refine pure_ (i := 4) (N := some 26) (v := ?_) (a' := ?_) #[true, true, true, true, true] rfl rfl (by kernel_rfl) (fun _ _ _ h => h) (Or.inl ⟨by rfl, ?_⟩) ?_ ?_
   rotate_left
   ·
    intro w'
    go_simp
    with_reducible rfl
   rotate_left
   ·
    simp only [Act.put, List.setIfInBounds_toArray, List.set_cons_zero, List.set_cons_succ, i64_w, i32_w]
    rfl
   refine done_ (by kernel_rfl) ?_
   go_upto_if 26 with (fail)
   have H := HC27.out
   clear HC27
   by_cases c32 : t520 = true
   ·
    subst c32
    have H1 : (some true) = some r := by rw [if_pos rfl] at H; exact H
    clear H
    have H := H1
    clear H1
    obtain rfl := Option.some.inj H
    go_wp2
    go_ret
    exact ⟨by first | rfl | (simp [errW_none, errW_some] <;> rfl) | (simp [*, errW_none, errW_some] <;> rfl), by exact bw HB.out⟩
   ·
    replace c32 := Bool.eq_false_iff.mpr c32
    subst c32
    have H1 : (some false) = some r := by rw [if_neg (show ¬ (false = true) by decide)] at H; exact H
    clear H
    have H := H1
    clear H1
    obtain rfl := Option.some.inj H
    go_wp2
    go_ret
    exact ⟨by first | rfl | (simp [errW_none, errW_some] <;> rfl) | (simp [*, errW_none, errW_some] <;> rfl), by exact bw HB.out⟩
  ·
   rw [if_neg c24] at H
   have c24b0 : (t513 == t505) = false := beq_eq_false_iff_ne.mpr c24
   have c24b1 : (t513 != t505) = true := bne_iff_ne.mpr c24
   (first | rw [c24b0] | (simp only [i64_w, i32_w]; rw [c24b0]) | rw [c24b2] | rw [c24b1] | skip)
   obtain rfl := Option.some.inj H
   go_wp2
   go_ret
   exact ⟨by first | rfl | (simp [errW_none, errW_some] <;> rfl) | (simp [*, errW_none, errW_some] <;> rfl), by exact bw HB.out⟩

/-- THE ONE PURE STATEMENT of laws_FnExactExprSize: yours. -/
def laws_FnExactExprSize.Pure : Prop := ∀ (a0_0 : Int) (a0_1 : Int) (a0_2 : ByteArray) (l0_3 : List (S49)), Fine49 (⟨a0_0, a0_1, a0_2, l0_3⟩ : S49) → ∃ k, laws_FnExactExprSize.f k a0_0 a0_1 a0_2 l0_3 = some true
theorem laws_FnExactExprSize.walk (P : laws_FnExactExprSize.Pure) (a0_0 : Int) (a0_1 : Int) (a0_2 : ByteArray) (A0_3 : Option Addr) (c0_3 : Nat) (l0_3 : List (S49)) (w : World) (hr0_3 : Kd.C k49 w A0_3 l0_3.length l0_3) (hc0_3 : l0_3.length ≤ c0_3) (w0 : Fine49 (⟨a0_0, a0_1, a0_2, l0_3⟩ : S49)) :
  Calls Try.prog 13 #[.agg #[.int .i64 a0_0, .int .i64 a0_1, .string a0_2, .slice A0_3 l0_3.length c0_3]] w fun e w' => e = .returned (.bool true) ∧ Below w.heap.size w w' := by
 obtain ⟨k, h⟩ := P a0_0 a0_1 a0_2 l0_3 w0
 refine (laws_FnExactExprSize.calls k a0_0 a0_1 a0_2 _ _ l0_3 true w hr0_3 hc0_3 h).mono ?_
 rintro e w' ⟨rfl, hd⟩
 exact ⟨rfl, hd⟩

end Go.Proofs.Ytefgbocbhohkeaa.P
