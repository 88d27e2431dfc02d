-- Written by a program of this session (wip/tool).
import Derived.Test.YtefgbocbhohkeaaPx0
import Derived.Test.YtefgbocbhohkeaaPx17
import Derived.Test.YtefgbocbhohkeaaPx50
import Derived.Test.YtefgbocbhohkeaaPx54
import Derived.Test.YtefgbocbhohkeaaPx63
namespace Go.Proofs.Ytefgbocbhohkeaa.P
open Go.RowKit Go.Proofs.YtefgbocbhohkeaaW.PrintWords Go.Proofs.YtefgbocbhohkeaaW.PrintLast Go.Proofs.YtefgbocbhohkeaaW.PrintMore
attribute [local go_sem] max2_int min2_int max_two min_two max_three min_three max_four min_four   -- for this text's walks alone
set_option linter.unusedVariables false
set_option linter.unusedSimpArgs false

/-! ### laws_FnExprValid: function 14 -/
mutual
def laws_FnExprValid.l0 : Nat → Bool → Int → Int → Int → ByteArray → List (S54) → Option (Bool)
 | 0, _, _, _, _, _, _ => none
 | k + 1, x4, x5, x796000, x796001, x796002, x796003 => if x5 < (x796003.length : Int) then (laws_FnExprValid.j1 k x4 x5 x4 x796000 x796001 x796002 x796003) else (laws_FnExprValid.j1 k x4 x5 false x796000 x796001 x796002 x796003)
def laws_FnExprValid.j1 : Nat → Bool → Int → Bool → Int → Int → ByteArray → List (S54) → Option (Bool)
 | 0, _, _, _, _, _, _, _ => none
 | k + 1, x4, x5, x24, x796000, x796001, x796002, x796003 => if x24 = true then (if 0 ≤ x5 then (if x5 < (x796003.length : Int) then ((impl_ExprValid.f k ((rd_T54 x796003 x5).f0) ((rd_T54 x796003 x5).f1) ((rd_T54 x796003 x5).f2) ((rd_T54 x796003 x5).f3)).bind fun t799 => (if t799 = true then (laws_FnExprValid.l0 k x4 (wrap64 (x5 + 1)) x796000 x796001 x796002 x796003) else (some false))) else (none)) else (none)) else ((impl_ExprValid.f k 13 0 (⟨#[]⟩ : ByteArray) ([] : List (S54))).bind fun t800 => (if t800 = true then (some false) else ((laws_alive.f k).bind fun t801 => (some t801))))
end
def laws_FnExprValid.f (k : Nat) (l0 : List Int) : Option (Bool) := if (l0.length : Int) > 1048576 then (some true) else ((spec_DrawExprValid.f k l0).bind fun bt789 => ((impl_ExprValid.f k bt789.1 bt789.2.1 bt789.2.2.1 bt789.2.2.2).bind fun t796 => ((spec_ExprValid.f k bt789.1 bt789.2.1 bt789.2.2.1 bt789.2.2.2).bind fun t797 => (if (t796 != t797) = true then (some false) else (laws_FnExprValid.l0 k t796 0 bt789.1 bt789.2.1 bt789.2.2.1 bt789.2.2.2)))))
theorem laws_FnExprValid.mono_l : ∀ k, (∀ y0 y1 y2 y3 y4 y5, LeO (laws_FnExprValid.l0 k y0 y1 y2 y3 y4 y5) (laws_FnExprValid.l0 (k + 1) y0 y1 y2 y3 y4 y5)) ∧ (∀ y0 y1 y2 y3 y4 y5 y6, LeO (laws_FnExprValid.j1 k y0 y1 y2 y3 y4 y5 y6) (laws_FnExprValid.j1 (k + 1) y0 y1 y2 y3 y4 y5 y6))
 | 0 => ⟨fun _ _ _ _ _ _ r h => by simp [laws_FnExprValid.l0] at h, fun _ _ _ _ _ _ _ r h => by simp [laws_FnExprValid.j1] at h⟩
 | k + 1 => by
  obtain ⟨ih0, ih1⟩ := laws_FnExprValid.mono_l k
  refine ⟨?_, ?_⟩
  ·
   intro y0 y1 y2 y3 y4 y5
   unfold laws_FnExprValid.l0
   repeat' first
   | (with_reducible exact ih0 _ _ _ _ _ _)
   | (with_reducible exact ih1 _ _ _ _ _ _ _)
   | (with_reducible exact impl_ExprValid.mono _ _ _ _ _)
   | (with_reducible exact laws_alive.mono _)
   | (with_reducible exact spec_DrawExprValid.mono _ _)
   | (with_reducible exact spec_ExprValid.mono _ _ _ _ _)
   | (with_reducible exact LeO.refl _)
   | (with_reducible exact LeO.none _)
   | (with_reducible refine LeO.ite ?_ ?_)
   | (with_reducible refine LeO.bind ?_ (fun _ => ?_))
   | exact ih0 _ _ _ _ _ _
   | exact ih1 _ _ _ _ _ _ _
   | exact impl_ExprValid.mono _ _ _ _ _
   | exact laws_alive.mono _
   | exact spec_DrawExprValid.mono _ _
   | exact spec_ExprValid.mono _ _ _ _ _
   | exact LeO.none _
   | refine LeO.ite ?_ ?_
   | refine LeO.bind ?_ (fun _ => ?_)
  ·
   intro y0 y1 y2 y3 y4 y5 y6
   unfold laws_FnExprValid.j1
   repeat' first
   | (with_reducible exact ih0 _ _ _ _ _ _)
   | (with_reducible exact ih1 _ _ _ _ _ _ _)
   | (with_reducible exact impl_ExprValid.mono _ _ _ _ _)
   | (with_reducible exact laws_alive.mono _)
   | (with_reducible exact spec_DrawExprValid.mono _ _)
   | (with_reducible exact spec_ExprValid.mono _ _ _ _ _)
   | (with_reducible exact LeO.refl _)
   | (with_reducible exact LeO.none _)
   | (with_reducible refine LeO.ite ?_ ?_)
   | (with_reducible refine LeO.bind ?_ (fun _ => ?_))
   | exact ih0 _ _ _ _ _ _
   | exact ih1 _ _ _ _ _ _ _
   | exact impl_ExprValid.mono _ _ _ _ _
   | exact laws_alive.mono _
   | exact spec_DrawExprValid.mono _ _
   | exact spec_ExprValid.mono _ _ _ _ _
   | exact LeO.none _
   | refine LeO.ite ?_ ?_
   | refine LeO.bind ?_ (fun _ => ?_)
theorem laws_FnExprValid.mono : ∀ a0 k, LeO (laws_FnExprValid.f k a0) (laws_FnExprValid.f (k + 1) a0) := by
 intro a0 k
 obtain ⟨ih0, ih1⟩ := laws_FnExprValid.mono_l k
 unfold laws_FnExprValid.f
 repeat' first
   | (with_reducible exact ih0 _ _ _ _ _ _)
   | (with_reducible exact ih1 _ _ _ _ _ _ _)
   | (with_reducible exact impl_ExprValid.mono _ _ _ _ _)
   | (with_reducible exact laws_alive.mono _)
   | (with_reducible exact spec_DrawExprValid.mono _ _)
   | (with_reducible exact spec_ExprValid.mono _ _ _ _ _)
   | (with_reducible exact LeO.refl _)
   | (with_reducible exact LeO.none _)
   | (with_reducible refine LeO.ite ?_ ?_)
   | (with_reducible refine LeO.bind ?_ (fun _ => ?_))
   | exact ih0 _ _ _ _ _ _
   | exact ih1 _ _ _ _ _ _ _
   | exact impl_ExprValid.mono _ _ _ _ _
   | exact laws_alive.mono _
   | exact spec_DrawExprValid.mono _ _
   | exact spec_ExprValid.mono _ _ _ _ _
   | exact LeO.none _
   | refine LeO.ite ?_ ?_
   | refine LeO.bind ?_ (fun _ => ?_)
set_option maxHeartbeats 8000000 in
set_option maxRecDepth 100000 in
theorem laws_FnExprValid.calls (k : Nat) (A0 : Option Addr) (c0 : Nat) (l0 : List Int) (r : Bool) (w : World) (hr0 : Kd.C (Kd.int .u8) w A0 l0.length l0) (hc0 : l0.length ≤ c0) (h : laws_FnExprValid.f k l0 = some r) :
  Calls Try.prog 14 #[.slice A0 l0.length c0] w fun e w' => e = .returned (.bool r) ∧ Below w.heap.size w w' := by
 have hu54 := Try.underlying54
 have HR0 := Aside0.mk hr0
 have HC0 := Aside0.mk hc0
 clear hr0 hc0
 have HB := Aside0.mk (Below.refl w.heap.size w)
 have H : (if (l0.length : Int) > 1048576 then (some true) else ((spec_DrawExprValid.f k l0).bind fun bt789 => ((impl_ExprValid.f k bt789.1 bt789.2.1 bt789.2.2.1 bt789.2.2.2).bind fun t796 => ((spec_ExprValid.f k bt789.1 bt789.2.1 bt789.2.2.1 bt789.2.2.2).bind fun t797 => (if (t796 != t797) = true then (some false) else (laws_FnExprValid.l0 k t796 0 bt789.1 bt789.2.1 bt789.2.2.1 bt789.2.2.2)))))) = some r := h
 clear h
 by_cases c2 : (l0.length : Int) > 1048576
 ·
  rw [if_pos c2] at H
  have c2b0 : decide (1048576 < (l0.length : Int)) = true := decide_eq_true c2
  have c2b1 : decide (1048576 < l0.length) = true := decide_eq_true (by omega)
  clear c2
  obtain rfl := Option.some.inj H
  go_enter Try.func14, Try.ntmps14
  go_wp2
  go_ret
  exact ⟨by first | rfl | (simp [errW_none, errW_some] <;> rfl) | (simp [*, errW_none, errW_some] <;> rfl), by exact bw HB.out⟩
 ·
  rw [if_neg c2] at H
  have c2b0 : decide (1048576 < (l0.length : Int)) = false := decide_eq_false c2
  have c2b1 : decide (1048576 < l0.length) = false := decide_eq_false (by omega)
  clear c2
  replace H := Option.bind_eq_some_iff.mp H
  obtain ⟨⟨t789, t790, t791, t792⟩, A30, H⟩ := H
  replace H : ((impl_ExprValid.f k t789 t790 t791 t792).bind fun t796 => ((spec_ExprValid.f k t789 t790 t791 t792).bind fun t797 => (if (t796 != t797) = true then (some false) else (laws_FnExprValid.l0 k t796 0 t789 t790 t791 t792)))) = some r := H
  have A3 := Aside0.mk A30
  clear A30
  replace H := Option.bind_eq_some_iff.mp H
  obtain ⟨t796, A40, H⟩ := H
  replace H : ((spec_ExprValid.f k t789 t790 t791 t792).bind fun t797 => (if (t796 != t797) = true then (some false) else (laws_FnExprValid.l0 k t796 0 t789 t790 t791 t792))) = some r := H
  have A4 := Aside0.mk A40
  clear A40
  replace H := Option.bind_eq_some_iff.mp H
  obtain ⟨t797, A50, H⟩ := H
  replace H : (if (t796 != t797) = true then (some false) else (laws_FnExprValid.l0 k t796 0 t789 t790 t791 t792)) = some r := H
  have A5 := Aside0.mk A50
  clear A50
  have HC6 := Aside0.mk H
  clear H
  go_enter Try.func14, Try.ntmps14
  go_upto_if 16 with (first | ((with_reducible refine gate_callee (f := 41) rfl ?_); refine gl (some 10) Try.func41 #[.slice A0 l0.length c0] ?_; (with_reducible refine (spec_DrawExprValid.calls k _ _ l0 t789 t790 t791 t792 _ ?side1 ?side2 A3.out).mono ?_); (case side1 => repeat (first | exact HR0.out | (with_reducible refine Kd.C_alloc ?_ _) | (with_reducible refine Kd.C_drewN ?_ _) | (with_reducible refine Kd.C_drew ?_))); (case side2 => exact HC0.out); rintro e w7 ⟨v793, rfl, ho0, hb⟩; refine ⟨_, rfl, ?_⟩; have n0_ := Aside0.mk (Kd.V_lower (Kd.V_mono (ok' := fun k_ => True) ho0 (fun k_ hk_ => trivial)) (below_size (by exact bw HB.out))); have n1_ := Aside0.mk (below_step (by exact bw HB.out) hb); clear HB; have HO794 := n0_; have HB := n1_; clear n0_ n1_; (try clear hb); (try clear hb2); (try clear hk); (try clear hi); (try clear ho0)) | ((with_reducible refine gate_dst (N := 3) rfl ?_); refine box_event ?hg (N := 3) ?hd (cs := #[.int .i64 0, .int .i64 0, .string (⟨#[]⟩ : ByteArray), .slice none 0 0]) (t := 54) ?hr ?_; (case hd => rfl); (case hg => rfl); (case hr => first | (go_simp; done) | (go_simp; rfl)); intro gb795 hg w8 hbox hb; have n0_ := Aside0.mk (Kd.V_below (Kd.V_elderB (by exact Kd.xV HO794.out) gb795 (Nat.le_of_eq hg.symm)) hb); have n1_ := Aside0.mk (below_step (by exact bw HB.out) hb); have n2_ := Aside0.mk (hbox); have n3_ := Aside0.mk ((by rw [hg]; exact (below_size (by exact bw HB.out)) : w.heap.size ≤ gb795)); have n4_ := Aside0.mk ((by rw [hg]; exact (below_size (by exact bw HB.out)) : w.heap.size ≤ gb795)); clear HO794; clear HB; have HO794 := n0_; have HB := n1_; have BK795 := n2_; have GW795 := n3_; have GE795 := n4_; clear n0_ n1_ n2_ n3_ n4_; clear hb hbox hg; have hcz9_0 : w8.cell? ⟨gb795, 0, none⟩ = some (.int .i64 0) := (blk_cell BK795.out 0).trans rfl; have hcz9_1 : w8.cell? ⟨gb795, 1, none⟩ = some (.int .i64 0) := (blk_cell BK795.out 1).trans rfl; have hcz9_2 : w8.cell? ⟨gb795, 2, none⟩ = some (.string (⟨#[]⟩ : ByteArray)) := (blk_cell BK795.out 2).trans rfl; have hcz9_3 : w8.cell? ⟨gb795, 3, none⟩ = some (.slice none 0 0) := (blk_cell BK795.out 3).trans rfl; have hfz9_0 := blk_frozen BK795.out 0; have hfz9_1 := blk_frozen BK795.out 1; have hfz9_2 := blk_frozen BK795.out 2; have hfz9_3 := blk_frozen BK795.out 3; obtain ⟨Ao10, co10, eo10⟩ := Kd.V_slice HO794.out; subst eo10) | ((with_reducible refine gate_callee (f := 38) rfl ?_); refine gl (some 12) Try.func38 #[.agg #[.int .i64 t789, .int .i64 t790, .string t791, .slice Ao10 t792.length co10]] ?_; (with_reducible refine (impl_ExprValid.calls k t789 t790 t791 _ _ t792 t796 _ ?side1 ?side2 A4.out).mono ?_); (case side1 => refine (Kd.V_reads' (e := 54) (base := w.heap.size) (ok := fun k_ => (True ∧ k_ ≠ gb795)) (n := t792.length) (c := co10) ?_).2.2; exact (by (with_reducible repeat (first | apply Kd.V_alloc | apply Kd.V_drewN | apply Kd.V_drew)); exact (Kd.V_mono (Kd.V_far (p := ⟨gb795, 3, none⟩) (Kd.V_far (p := ⟨gb795, 2, none⟩) (Kd.V_far (p := ⟨gb795, 1, none⟩) (Kd.V_far (p := ⟨gb795, 0, none⟩) (Kd.V_mono HO794.out (fun k_ hk => (⟨hk, okp hk⟩ : _ ∧ k_ ≠ gb795))) (fun _ hk => hk.2) (.int .i64 t789)) (fun _ hk => hk.2) (.int .i64 t790)) (fun _ hk => hk.2) (.string t791)) (fun _ hk => hk.2) (.slice Ao10 t792.length co10)) (fun _ h_ => h_.1)))); (case side2 => exact (Kd.V_reads' HO794.out).2.1); rintro e w11 ⟨rfl, hb⟩; refine ⟨_, rfl, ?_⟩; have n0_ := Aside0.mk (Kd.V_below (by (with_reducible repeat (first | apply Kd.V_alloc | apply Kd.V_drewN | apply Kd.V_drew)); exact (Kd.V_mono (Kd.V_far (p := ⟨gb795, 3, none⟩) (Kd.V_far (p := ⟨gb795, 2, none⟩) (Kd.V_far (p := ⟨gb795, 1, none⟩) (Kd.V_far (p := ⟨gb795, 0, none⟩) (Kd.V_mono HO794.out (fun k_ hk => (⟨hk, okp hk⟩ : _ ∧ k_ ≠ gb795))) (fun _ hk => hk.2) (.int .i64 t789)) (fun _ hk => hk.2) (.int .i64 t790)) (fun _ hk => hk.2) (.string t791)) (fun _ hk => hk.2) (.slice Ao10 t792.length co10)) (fun _ h_ => h_.1))) hb); have n1_ := Aside0.mk (blk_below (g := gb795) (o := .cells #[.int .i64 t789, .int .i64 t790, .string t791, .slice Ao10 t792.length co10] 54 (0, 0)) (by (with_reducible repeat (first | refine blk_drewN ?_ _ | refine blk_drew ?_ | refine blk_alloc ?_ _)); refine blk_put (cs := #[.int .i64 t789, .int .i64 t790, .string t791, .slice none 0 0]) ?_ 3 _ rfl; (with_reducible repeat (first | refine blk_drewN ?_ _ | refine blk_drew ?_ | refine blk_alloc ?_ _)); refine blk_put (cs := #[.int .i64 t789, .int .i64 t790, .string (⟨#[]⟩ : ByteArray), .slice none 0 0]) ?_ 2 _ rfl; (with_reducible repeat (first | refine blk_drewN ?_ _ | refine blk_drew ?_ | refine blk_alloc ?_ _)); refine blk_put (cs := #[.int .i64 t789, .int .i64 0, .string (⟨#[]⟩ : ByteArray), .slice none 0 0]) ?_ 1 _ rfl; (with_reducible repeat (first | refine blk_drewN ?_ _ | refine blk_drew ?_ | refine blk_alloc ?_ _)); refine blk_put (cs := #[.int .i64 0, .int .i64 0, .string (⟨#[]⟩ : ByteArray), .slice none 0 0]) ?_ 0 _ rfl; exact bk BK795.out) hb); have n2_ := Aside0.mk (below_step (by exact bw HB.out) hb); clear HO794; clear BK795; clear HB; have HO794 := n0_; have BK795 := n1_; have HB := n2_; clear n0_ n1_ n2_; (try clear hb); (try clear hb2); (try clear hk); (try clear hi); have hcz12_0 : w11.cell? ⟨gb795, 0, none⟩ = some (.int .i64 t789) := (blk_cell BK795.out 0).trans rfl; have hcz12_1 : w11.cell? ⟨gb795, 1, none⟩ = some (.int .i64 t790) := (blk_cell BK795.out 1).trans rfl; have hcz12_2 : w11.cell? ⟨gb795, 2, none⟩ = some (.string t791) := (blk_cell BK795.out 2).trans rfl; have hcz12_3 : w11.cell? ⟨gb795, 3, none⟩ = some (.slice Ao10 t792.length co10) := (blk_cell BK795.out 3).trans rfl; have hfz12_0 := blk_frozen BK795.out 0; have hfz12_1 := blk_frozen BK795.out 1; have hfz12_2 := blk_frozen BK795.out 2; have hfz12_3 := blk_frozen BK795.out 3) | ((with_reducible refine gate_callee (f := 37) rfl ?_); refine gl (some 15) Try.func37 #[.agg #[.int .i64 t789, .int .i64 t790, .string t791, .slice Ao10 t792.length co10]] ?_; (with_reducible refine (spec_ExprValid.calls k t789 t790 t791 _ _ t792 t797 _ ?side1 ?side2 A5.out).mono ?_); (case side1 => repeat (first | exact (Kd.V_reads' HO794.out).2.2 | (with_reducible refine Kd.C_alloc ?_ _) | (with_reducible refine Kd.C_drewN ?_ _) | (with_reducible refine Kd.C_drew ?_))); (case side2 => exact (Kd.V_reads' HO794.out).2.1); rintro e w13 ⟨rfl, hb⟩; refine ⟨_, rfl, ?_⟩; have n0_ := Aside0.mk (Kd.V_below (by exact Kd.xV HO794.out) hb); have n1_ := Aside0.mk (blk_below (g := gb795) (o := .cells #[.int .i64 t789, .int .i64 t790, .string t791, .slice Ao10 t792.length co10] 54 (0, 0)) (by exact bk BK795.out) hb); have n2_ := Aside0.mk (below_step (by exact bw HB.out) hb); clear HO794; clear BK795; clear HB; have HO794 := n0_; have BK795 := n1_; have HB := n2_; clear n0_ n1_ n2_; (try clear hb); (try clear hb2); (try clear hk); (try clear hi)))
  (try simp only [Act.put, List.setIfInBounds_toArray, List.set_cons_zero, List.set_cons_succ])
  have H := HC6.out
  clear HC6
  by_cases c14 : (t796 != t797) = true
  ·
   rw [if_pos c14] at H
   have c14b0 : (t796 != t797) = true := c14
   (try (have c14b1 : decide (t796 = t797) = false := by simpa using c14))
   (try (have c14b2 : (t796 == t797) = false := by simpa using c14))
   (try (have c14b3 : ¬ (t796 = t797) := by simpa using c14))
   clear c14
   (first | rw [c14b0] | (simp only [i64_w, i32_w]; rw [c14b0]) | rw [c14b2] | rw [c14b1] | skip)
   obtain rfl := Option.some.inj H
   go_wp2
   go_ret
   exact ⟨by first | rfl | (simp [errW_none, errW_some] <;> rfl) | (simp [*, errW_none, errW_some] <;> rfl), by exact bw HB.out⟩
  ·
   rw [if_neg c14] at H
   have c14b0 : (t796 != t797) = false := by simpa using c14
   (try (have c14b1 : decide (t796 = t797) = true := by simpa using c14))
   (try (have c14b2 : (t796 == t797) = true := by simpa using c14))
   clear c14
   (first | rw [c14b0] | (simp only [i64_w, i32_w]; rw [c14b0]) | rw [c14b2] | rw [c14b1] | skip)
   have H' := Aside0.mk H
   clear H
   go_wp2
   go_loopg [5] k (fun kq v5 w' => ∃ (x5_1 : Int), v5 = .int .i64 x5_1 ∧ Aside0 (laws_FnExprValid.l0 kq t796 x5_1 t789 t790 t791 t792 = some r) ∧ Aside0 (kq ≤ k) ∧ Aside0 (Kd.V k54 54 w' w.heap.size (fun k_ => k_ ≠ gb795) (.slice Ao10 t792.length co10) t792) ∧ Aside0 (w'.heap[gb795]? = some (.cells #[.int .i64 t789, .int .i64 t790, .string t791, (.slice Ao10 t792.length co10)] 54 (0, 0))) ∧ Aside0 (Below w.heap.size w w'))
   case atStart => exact ⟨(0), (by first | rfl | (simp; done) | (simp [*]; done)), H', ⟨Nat.le_refl _⟩, ⟨by (with_reducible repeat (first | apply Kd.V_alloc | apply Kd.V_drewN | apply Kd.V_drew)); exact Kd.V_mono HO794.out (fun _ hk => hk.2)⟩, ⟨by exact bk BK795.out⟩, ⟨by exact bw HB.out⟩⟩
   case round =>
    clear H'
    try clear c1
    try clear c2
    try clear c2b0
    try clear c2b1
    try clear p2
    try clear c3
    try clear c4
    try clear c14
    try clear c14b0
    try clear c14b1
    try clear c14b2
    try clear hcz12_0
    try clear hcz12_1
    try clear hcz12_2
    try clear hcz12_3
    try clear hcz9_0
    try clear hcz9_1
    try clear hcz9_2
    try clear hcz9_3
    try clear hfz12_0
    try clear hfz12_1
    try clear hfz12_2
    try clear hfz12_3
    try clear hfz9_0
    try clear hfz9_1
    try clear hfz9_2
    try clear hfz9_3
    obtain ⟨x5_1, rfl, HA, HK1, HO_796003, BK795, HB⟩ := hrel
    cases gk with
    | zero => exact absurd HA.out (by simp [laws_FnExprValid.l0])
    | succ k1 =>
     have H := HA.out
     clear HA
     simp only [laws_FnExprValid.l0] at H
     have HC15 := Aside0.mk H
     clear H
     go_upto_region 8 with (fail)
     go_cut [24] (fun v24 wc => ∃ (kq : Nat) (x24_14 : Bool), v24 = .bool x24_14 ∧ Aside0 (laws_FnExprValid.j1 kq t796 x5_1 x24_14 t789 t790 t791 t792 = some r) ∧ Aside0 (kq ≤ k1) ∧ Aside0 (Kd.V k54 54 wc w.heap.size (fun k_ => k_ ≠ gb795) (.slice Ao10 t792.length co10) t792) ∧ Aside0 (wc.heap[gb795]? = some (.cells #[.int .i64 t789, .int .i64 t790, .string t791, (.slice Ao10 t792.length co10)] 54 (0, 0))) ∧ Aside0 (Below w.heap.size w wc))
     case first =>
      have H := HC15.out
      clear HC15
      by_cases c16 : x5_1 < (t792.length : Int)
      ·
       rw [if_pos c16] at H
       have c16b0 : decide (x5_1 < (t792.length : Int)) = true := decide_eq_true c16
       clear c16
       (first | rw [c16b0] | (simp only [i64_w, i32_w]; rw [c16b0]) | rw [c16b2] | rw [c16b1] | skip)
       have H' := Aside0.mk H
       clear H
       have hcz17_0 : wr.cell? ⟨gb795, 0, none⟩ = some (.int .i64 t789) := (blk_cell BK795.out 0).trans rfl
       have hcz17_1 : wr.cell? ⟨gb795, 1, none⟩ = some (.int .i64 t790) := (blk_cell BK795.out 1).trans rfl
       have hcz17_2 : wr.cell? ⟨gb795, 2, none⟩ = some (.string t791) := (blk_cell BK795.out 2).trans rfl
       have hcz17_3 : wr.cell? ⟨gb795, 3, none⟩ = some (.slice Ao10 t792.length co10) := (blk_cell BK795.out 3).trans rfl
       have hfz17_0 := blk_frozen BK795.out 0
       have hfz17_1 := blk_frozen BK795.out 1
       have hfz17_2 := blk_frozen BK795.out 2
       have hfz17_3 := blk_frozen BK795.out 3
       go_wp2
       go_meet
       case rel => exact ⟨_, (t796), (by first | rfl | (simp; done) | (simp [*]; done)), H', ⟨by have := HK1.out; first | omega | exact Nat.le_refl _⟩, ⟨by exact Kd.xV HO_796003.out⟩, ⟨by exact bk BK795.out⟩, ⟨by exact bw HB.out⟩⟩
      ·
       rw [if_neg c16] at H
       have c16b0 : decide (x5_1 < (t792.length : Int)) = false := decide_eq_false c16
       clear c16
       (first | rw [c16b0] | (simp only [i64_w, i32_w]; rw [c16b0]) | rw [c16b2] | rw [c16b1] | skip)
       have H' := Aside0.mk H
       clear H
       have hcz18_0 : wr.cell? ⟨gb795, 0, none⟩ = some (.int .i64 t789) := (blk_cell BK795.out 0).trans rfl
       have hcz18_1 : wr.cell? ⟨gb795, 1, none⟩ = some (.int .i64 t790) := (blk_cell BK795.out 1).trans rfl
       have hcz18_2 : wr.cell? ⟨gb795, 2, none⟩ = some (.string t791) := (blk_cell BK795.out 2).trans rfl
       have hcz18_3 : wr.cell? ⟨gb795, 3, none⟩ = some (.slice Ao10 t792.length co10) := (blk_cell BK795.out 3).trans rfl
       have hfz18_0 := blk_frozen BK795.out 0
       have hfz18_1 := blk_frozen BK795.out 1
       have hfz18_2 := blk_frozen BK795.out 2
       have hfz18_3 := blk_frozen BK795.out 3
       go_wp2
       go_meet
       case rel => exact ⟨_, (false), (by first | rfl | (simp; done) | (simp [*]; done)), H', ⟨by have := HK1.out; first | omega | exact Nat.le_refl _⟩, ⟨by exact Kd.xV HO_796003.out⟩, ⟨by exact bk BK795.out⟩, ⟨by exact bw HB.out⟩⟩
     case rest =>
      clear HC15
      try clear c1
      try clear c2
      try clear c2b0
      try clear c2b1
      try clear p2
      try clear c3
      try clear c4
      try clear c14
      try clear c14b0
      try clear c14b1
      try clear c14b2
      try clear c16
      try clear c16b0
      try clear c16b1
      try clear c16b2
      try clear hcz12_0
      try clear hcz12_1
      try clear hcz12_2
      try clear hcz12_3
      try clear hcz17_0
      try clear hcz17_1
      try clear hcz17_2
      try clear hcz17_3
      try clear hcz18_0
      try clear hcz18_1
      try clear hcz18_2
      try clear hcz18_3
      try clear hcz9_0
      try clear hcz9_1
      try clear hcz9_2
      try clear hcz9_3
      try clear hfz12_0
      try clear hfz12_1
      try clear hfz12_2
      try clear hfz12_3
      try clear hfz17_0
      try clear hfz17_1
      try clear hfz17_2
      try clear hfz17_3
      try clear hfz18_0
      try clear hfz18_1
      try clear hfz18_2
      try clear hfz18_3
      try clear hfz9_0
      try clear hfz9_1
      try clear hfz9_2
      try clear hfz9_3
      try clear p2
      obtain ⟨kq, x24_14, rfl, HA, HJ14, HO_796003, BK795, HB⟩ := hcut
      cases kq with
      | zero => exact absurd HA.out (by simp [laws_FnExprValid.j1])
      | succ kj14 =>
       have H := HA.out
       clear HA
       simp only [laws_FnExprValid.j1] at H
       by_cases c19 : x24_14 = true
       ·
        subst c19
        have H1 : (if 0 ≤ x5_1 then (if x5_1 < (t792.length : Int) then ((impl_ExprValid.f kj14 ((rd_T54 t792 x5_1).f0) ((rd_T54 t792 x5_1).f1) ((rd_T54 t792 x5_1).f2) ((rd_T54 t792 x5_1).f3)).bind fun t799 => (if t799 = true then (laws_FnExprValid.l0 kj14 t796 (wrap64 (x5_1 + 1)) t789 t790 t791 t792) else (some false))) else (none)) else (none)) = some r := by rw [if_pos rfl] at H; exact H
        clear H
        have H := H1
        clear H1
        by_cases c20 : 0 ≤ x5_1
        ·
         rw [if_pos c20] at H
         have c20b0 : decide (0 ≤ x5_1) = true := decide_eq_true c20
         clear c20
         by_cases c21 : x5_1 < (t792.length : Int)
         ·
          rw [if_pos c21] at H
          have c21b0 : decide (x5_1 < (t792.length : Int)) = true := decide_eq_true c21
          clear c21
          replace H := Option.bind_eq_some_iff.mp H
          obtain ⟨t799, A220, H⟩ := H
          replace H : (if t799 = true then (laws_FnExprValid.l0 kj14 t796 (wrap64 (x5_1 + 1)) t789 t790 t791 t792) else (some false)) = some r := H
          have A22 := Aside0.mk A220
          clear A220
          have HC23 := Aside0.mk H
          clear H
          have hcz24_0 : wc.cell? ⟨gb795, 0, none⟩ = some (.int .i64 t789) := (blk_cell BK795.out 0).trans rfl
          have hcz24_1 : wc.cell? ⟨gb795, 1, none⟩ = some (.int .i64 t790) := (blk_cell BK795.out 1).trans rfl
          have hcz24_2 : wc.cell? ⟨gb795, 2, none⟩ = some (.string t791) := (blk_cell BK795.out 2).trans rfl
          have hcz24_3 : wc.cell? ⟨gb795, 3, none⟩ = some (.slice Ao10 t792.length co10) := (blk_cell BK795.out 3).trans rfl
          have hfz24_0 := blk_frozen BK795.out 0
          have hfz24_1 := blk_frozen BK795.out 1
          have hfz24_2 := blk_frozen BK795.out 2
          have hfz24_3 := blk_frozen BK795.out 3
          have p798 : 0 ≤ (x5_1 : Int) := of_decide_eq_true (by first | (with_reducible assumption) | assumption)
          have q798 : x5_1 < (t792.length : Int) := of_decide_eq_true (by first | (with_reducible assumption) | assumption)
          obtain ⟨ad798, A798_3, c798_3, e798, hx798_0, hx798_1, hx798_2, hx798_3, hl798_3, hi798_3⟩ := at_T54 (Kd.V_reads' HO_796003.out).2.2 x5_1 p798 q798
          cases e798
          obtain ⟨ce798, hce798, hMe798, hcc798⟩ := Kd.V_get HO_796003.out z54 x5_1 p798 (by first | exact q798 | exact of_decide_eq_true (by first | (with_reducible assumption) | assumption) | (have e_ := (Kd.V_reads' HO_796003.out).1; omega))
          obtain ⟨ua798_3, uc798_3, rfl, ul798_3, ge798_3⟩ := k54_openF hMe798
          have hv798_3 := hcc798 3 _ rfl
          rw [add_field _ _ 3 (by omega)] at hv798_3
          replace hv798_3 := Option.some.inj (hv798_3.symm.trans hx798_3)
          injection hv798_3 with hva_ hvn_ hvc_
          rw [hva_] at ge798_3
          rw [hvc_] at ul798_3
          have HL798_3 := Aside0.mk (show Kd.V k54 54 _ w.heap.size _ _ ((rd_T54 t792 x5_1).f3) from Kd.V_mk ul798_3 ge798_3)
          clear hva_ hvn_ hvc_ ge798_3 ul798_3
          clear hcc798 hce798
          have HR798_3 := Aside0.mk hi798_3
          have HC798_3 := Aside0.mk hl798_3
          clear hi798_3 hl798_3
          replace p798 := eq_true p798
          replace q798 := eq_true q798
          go_upto_if 33 with (first | ((with_reducible refine gate_callee (f := 38) rfl ?_); refine gl (some 32) Try.func38 #[.agg #[.int .i64 ((rd_T54 t792 x5_1).f0), .int .i64 ((rd_T54 t792 x5_1).f1), .string ((rd_T54 t792 x5_1).f2), .slice A798_3 ((rd_T54 t792 x5_1).f3).length c798_3]] ?_; (with_reducible refine (impl_ExprValid.calls kj14 ((rd_T54 t792 x5_1).f0) ((rd_T54 t792 x5_1).f1) ((rd_T54 t792 x5_1).f2) _ _ ((rd_T54 t792 x5_1).f3) t799 _ ?side1 ?side2 A22.out).mono ?_); (case side1 => repeat (first | exact (by repeat (first | (with_reducible exact HR798_3.out) | (with_reducible refine Kd.C_alloc ?_ _) | (with_reducible refine Kd.C_drewN ?_ _) | (with_reducible refine Kd.C_drew ?_) | exact HR798_3.out)) | (with_reducible refine Kd.C_alloc ?_ _) | (with_reducible refine Kd.C_drewN ?_ _) | (with_reducible refine Kd.C_drew ?_))); (case side2 => exact HC798_3.out); rintro e w25 ⟨rfl, hb⟩; refine ⟨_, rfl, ?_⟩; have n0_ := Aside0.mk (Kd.V_below (by exact Kd.xV HO_796003.out) hb); have n1_ := Aside0.mk (Kd.V_below (by exact Kd.xV HL798_3.out) hb); have n2_ := Aside0.mk (blk_below (g := gb795) (o := .cells #[.int .i64 t789, .int .i64 t790, .string t791, .slice (some ad798) t792.length co10] 54 (0, 0)) (by exact bk BK795.out) hb); have n3_ := Aside0.mk (Kd.C_below (by repeat (first | (with_reducible exact HR798_3.out) | (with_reducible refine Kd.C_alloc ?_ _) | (with_reducible refine Kd.C_drewN ?_ _) | (with_reducible refine Kd.C_drew ?_) | exact HR798_3.out)) hb); have n4_ := Aside0.mk (below_step (by exact bw HB.out) hb); clear HO_796003; clear HL798_3; clear BK795; clear HR798_3; clear HB; have HO_796003 := n0_; have HL798_3 := n1_; have BK795 := n2_; have HR798_3 := n3_; have HB := n4_; clear n0_ n1_ n2_ n3_ n4_; (try clear hb); (try clear hb2); (try clear hk); (try clear hi)))
          (try simp only [Act.put, List.setIfInBounds_toArray, List.set_cons_zero, List.set_cons_succ])
          have H := HC23.out
          clear HC23
          by_cases c26 : t799 = true
          ·
           subst c26
           have H1 : (laws_FnExprValid.l0 kj14 t796 (wrap64 (x5_1 + 1)) t789 t790 t791 t792) = some r := by rw [if_pos rfl] at H; exact H
           clear H
           have H := H1
           clear H1
           have H' := Aside0.mk H
           clear H
           go_wp2
           go_roundg kj14
           case measure => have := HK1.out; have := HJ14.out; omega
           case rel => exact ⟨(wrap64 (x5_1 + 1)), (by first | rfl | (simp; done) | (simp [*]; done)), H', ⟨by have := HK1.out; have := HJ14.out; omega⟩, ⟨by exact Kd.xV HO_796003.out⟩, ⟨by exact bk BK795.out⟩, ⟨by exact bw HB.out⟩⟩
          ·
           replace c26 := Bool.eq_false_iff.mpr c26
           subst c26
           have H1 : (some false) = some r := by rw [if_neg (show ¬ (false = true) by decide)] at H; exact H
           clear H
           have H := H1
           clear H1
           obtain rfl := Option.some.inj H
           go_wp2
           go_ret
           exact ⟨by first | rfl | (simp [errW_none, errW_some] <;> rfl) | (simp [*, errW_none, errW_some] <;> rfl), by exact bw HB.out⟩
         ·
          rw [if_neg c21] at H
          exact absurd H (by simp)
        ·
         rw [if_neg c20] at H
         exact absurd H (by simp)
       ·
        replace c19 := Bool.eq_false_iff.mpr c19
        subst c19
        have H1 : ((impl_ExprValid.f kj14 13 0 (⟨#[]⟩ : ByteArray) ([] : List (S54))).bind fun t800 => (if t800 = true then (some false) else ((laws_alive.f kj14).bind fun t801 => (some t801)))) = some r := by rw [if_neg (show ¬ (false = true) by decide)] at H; exact H
        clear H
        have H := H1
        clear H1
        replace H := Option.bind_eq_some_iff.mp H
        obtain ⟨t800, A270, H⟩ := H
        replace H : (if t800 = true then (some false) else ((laws_alive.f kj14).bind fun t801 => (some t801))) = some r := H
        have A27 := Aside0.mk A270
        clear A270
        by_cases c28 : t800 = true
        ·
         subst c28
         have H1 : (some false) = some r := by rw [if_pos rfl] at H; exact H
         clear H
         have H := H1
         clear H1
         obtain rfl := Option.some.inj H
         go_wp2_with (first | ((with_reducible refine gate_callee (f := 38) rfl ?_); refine gl (some 35) Try.func38 #[.agg #[.int .i64 13, .int .i64 0, .string (⟨#[]⟩ : ByteArray), .slice none 0 0]] ?_; (refine (impl_ExprValid.calls kj14 13 0 (⟨#[]⟩ : ByteArray) _ _ ([] : List (S54)) true _ ?side1 ?side2 A27.out).mono ?_); (case side1 => exact Kd.C_nil _ _); (case side2 => exact Nat.le_refl _); rintro e w29 ⟨rfl, hb⟩; refine ⟨_, rfl, ?_⟩; have n0_ := Aside0.mk (Kd.V_below (by exact Kd.xV HO_796003.out) hb); have n1_ := Aside0.mk (blk_below (g := gb795) (o := .cells #[.int .i64 t789, .int .i64 t790, .string t791, .slice Ao10 t792.length co10] 54 (0, 0)) (by exact bk BK795.out) hb); have n2_ := Aside0.mk (below_step (by exact bw HB.out) hb); clear HO_796003; clear BK795; clear HB; have HO_796003 := n0_; have BK795 := n1_; have HB := n2_; clear n0_ n1_ n2_; (try clear hb); (try clear hb2); (try clear hk); (try clear hi)))
         go_ret
         exact ⟨by first | rfl | (simp [errW_none, errW_some] <;> rfl) | (simp [*, errW_none, errW_some] <;> rfl), by exact bw HB.out⟩
        ·
         replace c28 := Bool.eq_false_iff.mpr c28
         subst c28
         have H1 : ((laws_alive.f kj14).bind fun t801 => (some t801)) = some r := by rw [if_neg (show ¬ (false = true) by decide)] at H; exact H
         clear H
         have H := H1
         clear H1
         replace H := Option.bind_eq_some_iff.mp H
         obtain ⟨t801, A300, H⟩ := H
         replace H : (some t801) = some r := H
         have A30 := Aside0.mk A300
         clear A300
         obtain rfl := Option.some.inj H
         go_wp2_with (first | ((with_reducible refine gate_callee (f := 38) rfl ?_); refine gl (some 35) Try.func38 #[.agg #[.int .i64 13, .int .i64 0, .string (⟨#[]⟩ : ByteArray), .slice none 0 0]] ?_; (refine (impl_ExprValid.calls kj14 13 0 (⟨#[]⟩ : ByteArray) _ _ ([] : List (S54)) false _ ?side1 ?side2 A27.out).mono ?_); (case side1 => exact Kd.C_nil _ _); (case side2 => exact Nat.le_refl _); rintro e w31 ⟨rfl, hb⟩; refine ⟨_, rfl, ?_⟩; have n0_ := Aside0.mk (Kd.V_below (by exact Kd.xV HO_796003.out) hb); have n1_ := Aside0.mk (blk_below (g := gb795) (o := .cells #[.int .i64 t789, .int .i64 t790, .string t791, .slice Ao10 t792.length co10] 54 (0, 0)) (by exact bk BK795.out) hb); have n2_ := Aside0.mk (below_step (by exact bw HB.out) hb); clear HO_796003; clear BK795; clear HB; have HO_796003 := n0_; have BK795 := n1_; have HB := n2_; clear n0_ n1_ n2_; (try clear hb); (try clear hb2); (try clear hk); (try clear hi)) | (go_at_call 21; (with_reducible refine (laws_alive.calls kj14  t801 _ A30.out).mono ?_); rintro e w' ⟨rfl, ⟨nd, rfl⟩⟩))
         go_ret
         exact ⟨by first | rfl | (simp [errW_none, errW_some] <;> rfl) | (simp [*, errW_none, errW_some] <;> rfl), by exact bw HB.out⟩

/-- THE ONE PURE STATEMENT of laws_FnExprValid: yours. -/
def laws_FnExprValid.Pure : Prop := ∀ (l0 : List Int), l0.length ≤ maxLen → l0.length * 1 ≤ 140737488351232 → (∀ x ∈ l0, (Lit.int .u8 x).wf = true) → ∃ k, laws_FnExprValid.f k l0 = some true
theorem laws_FnExprValid.walk (P : laws_FnExprValid.Pure) (a0 : Option Addr) (len0 cap0 : Nat) (z0 : List Int) (w : World) (w0 : (a0 = none ∧ len0 = 0 ∧ cap0 = 0 ∧ z0 = []) ∨ ∃ x, a0 = some x ∧ len0 ≤ cap0 ∧ cap0 ≤ maxLen ∧ z0.length = cap0 ∧ (∀ i, i < z0.length → w.cell? (x.add i) = some (.int .u8 (z0.getD i 0))) ∧ ∀ n ∈ z0, (Lit.int .u8 n).wf = true) (y0 : len0 * 1 ≤ 140737488351232) :
  Calls Try.prog 14 #[.slice a0 len0 cap0] w fun e w' => e = .returned (.bool true) ∧ Below w.heap.size w w' := by
 obtain ⟨l0, rfl, hr0, hm0, hw0, hc0⟩ := ReadsInt.ofRowC w0
 obtain ⟨k, h⟩ := P l0 hm0 y0 hw0
 refine (laws_FnExprValid.calls k _ _ l0 true w (Kd.C_of_reads (d := (0 : Int)) (h1 := fun _ => rfl) hr0) hc0 h).mono ?_
 rintro e w' ⟨rfl, hd⟩
 exact ⟨rfl, hd⟩

end Go.Proofs.Ytefgbocbhohkeaa.P
