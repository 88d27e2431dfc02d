-- Written by a program of this session (wip/tool).
import Derived.Test.YtejfaenmgdkaoaaPx0
import Derived.Test.YtejfaenmgdkaoaaPx14
import Derived.Test.YtejfaenmgdkaoaaPx51
import Derived.Test.YtejfaenmgdkaoaaPx83
import Derived.Test.YtejfaenmgdkaoaaPx84
import Derived.Test.YtejfaenmgdkaoaaPx85
namespace Go.Proofs.Ytejfaenmgdkaoaa.P
open Go.RowKit Go.Proofs.YtejfaenmgdkaoaaW.PrintWords Go.Proofs.YtejfaenmgdkaoaaW.PrintLast Go.Proofs.YtejfaenmgdkaoaaW.PrintMore
attribute [local go_sem] max2_int min2_int max_two min_two max_three min_three max_four min_four   -- for this text's walks alone
set_option linter.unusedVariables false
set_option linter.unusedSimpArgs false

/-! ### laws_FnExprSize: function 10 -/
def laws_FnExprSize.l0 : Nat → Int → Int → Int → Int → Int → ByteArray → List (S55) → Option (Bool)
 | 0, _, _, _, _, _, _, _ => none
 | k + 1, x4, x5, x6, x966000, x966001, x966002, x966003 => if x6 < (x966003.length : Int) then (if 0 ≤ x6 then ((impl_ExprSize.f k ((rd_T55 x966003 x6).f0) ((rd_T55 x966003 x6).f1) ((rd_T55 x966003 x6).f2) ((rd_T55 x966003 x6).f3)).bind fun t971 => (laws_FnExprSize.l0 k x4 (wrap64 (x5 + t971)) (wrap64 (x6 + 1)) x966000 x966001 x966002 x966003)) else (none)) else (if x5 = x4 then (some (decide (x4 ≤ 40))) else (some false))
def laws_FnExprSize.f (k : Nat) (l0 : List Int) : Option (Bool) := if (l0.length : Int) > 1048576 then (some true) else ((spec_DrawExprSize.f k l0).bind fun bt959 => ((impl_ExprSize.f k bt959.1 bt959.2.1 bt959.2.2.1 bt959.2.2.2).bind fun t966 => ((spec_ExprSize.f k bt959.1 bt959.2.1 bt959.2.2.1 bt959.2.2.2).bind fun t967 => (if t966 = t967 then (if t966 = 0 then ((impl_ExprValid.f k bt959.1 bt959.2.1 bt959.2.2.1 bt959.2.2.2).bind fun t968 => (if t968 = true then (some false) else ((laws_alive.f k).bind fun t969 => (some t969)))) else (laws_FnExprSize.l0 k t966 1 0 bt959.1 bt959.2.1 bt959.2.2.1 bt959.2.2.2)) else (some false)))))
theorem laws_FnExprSize.mono_l : ∀ k, (∀ y0 y1 y2 y3 y4 y5 y6, LeO (laws_FnExprSize.l0 k y0 y1 y2 y3 y4 y5 y6) (laws_FnExprSize.l0 (k + 1) y0 y1 y2 y3 y4 y5 y6))
 | 0 => fun _ _ _ _ _ _ _ r h => by simp [laws_FnExprSize.l0] at h
 | k + 1 => by
  have ih0 := laws_FnExprSize.mono_l k
  ·
   intro y0 y1 y2 y3 y4 y5 y6
   unfold laws_FnExprSize.l0
   repeat' first
   | (with_reducible exact ih0 _ _ _ _ _ _ _)
   | (with_reducible exact impl_ExprSize.mono _ _ _ _ _)
   | (with_reducible exact impl_ExprValid.mono _ _ _ _ _)
   | (with_reducible exact laws_alive.mono _)
   | (with_reducible exact spec_DrawExprSize.mono _ _)
   | (with_reducible exact spec_ExprSize.mono _ _ _ _ _)
   | (with_reducible exact LeO.refl _)
   | (with_reducible exact LeO.none _)
   | (with_reducible refine LeO.ite ?_ ?_)
   | (with_reducible refine LeO.bind ?_ (fun _ => ?_))
   | exact ih0 _ _ _ _ _ _ _
   | exact impl_ExprSize.mono _ _ _ _ _
   | exact impl_ExprValid.mono _ _ _ _ _
   | exact laws_alive.mono _
   | exact spec_DrawExprSize.mono _ _
   | exact spec_ExprSize.mono _ _ _ _ _
   | exact LeO.none _
   | refine LeO.ite ?_ ?_
   | refine LeO.bind ?_ (fun _ => ?_)
theorem laws_FnExprSize.mono : ∀ a0 k, LeO (laws_FnExprSize.f k a0) (laws_FnExprSize.f (k + 1) a0) := by
 intro a0 k
 have ih0 := laws_FnExprSize.mono_l k
 unfold laws_FnExprSize.f
 repeat' first
   | (with_reducible exact ih0 _ _ _ _ _ _ _)
   | (with_reducible exact impl_ExprSize.mono _ _ _ _ _)
   | (with_reducible exact impl_ExprValid.mono _ _ _ _ _)
   | (with_reducible exact laws_alive.mono _)
   | (with_reducible exact spec_DrawExprSize.mono _ _)
   | (with_reducible exact spec_ExprSize.mono _ _ _ _ _)
   | (with_reducible exact LeO.refl _)
   | (with_reducible exact LeO.none _)
   | (with_reducible refine LeO.ite ?_ ?_)
   | (with_reducible refine LeO.bind ?_ (fun _ => ?_))
   | exact ih0 _ _ _ _ _ _ _
   | exact impl_ExprSize.mono _ _ _ _ _
   | exact impl_ExprValid.mono _ _ _ _ _
   | exact laws_alive.mono _
   | exact spec_DrawExprSize.mono _ _
   | exact spec_ExprSize.mono _ _ _ _ _
   | exact LeO.none _
   | refine LeO.ite ?_ ?_
   | refine LeO.bind ?_ (fun _ => ?_)
set_option maxHeartbeats 8000000 in
set_option maxRecDepth 100000 in
theorem laws_FnExprSize.calls (k : Nat) (A0 : Option Addr) (c0 : Nat) (l0 : List Int) (r : Bool) (w : World) (hr0 : Kd.C (Kd.int .u8) w A0 l0.length l0) (hc0 : l0.length ≤ c0) (h : laws_FnExprSize.f k l0 = some r) :
  Calls Try.prog 10 #[.slice A0 l0.length c0] w fun e w' => e = .returned (.bool r) ∧ Below w.heap.size w w' := by
 have hu55 := Try.underlying55
 have HR0 := Aside0.mk hr0
 have HC0 := Aside0.mk hc0
 clear hr0 hc0
 have HB := Aside0.mk (Below.refl w.heap.size w)
 have H : (if (l0.length : Int) > 1048576 then (some true) else ((spec_DrawExprSize.f k l0).bind fun bt959 => ((impl_ExprSize.f k bt959.1 bt959.2.1 bt959.2.2.1 bt959.2.2.2).bind fun t966 => ((spec_ExprSize.f k bt959.1 bt959.2.1 bt959.2.2.1 bt959.2.2.2).bind fun t967 => (if t966 = t967 then (if t966 = 0 then ((impl_ExprValid.f k bt959.1 bt959.2.1 bt959.2.2.1 bt959.2.2.2).bind fun t968 => (if t968 = true then (some false) else ((laws_alive.f k).bind fun t969 => (some t969)))) else (laws_FnExprSize.l0 k t966 1 0 bt959.1 bt959.2.1 bt959.2.2.1 bt959.2.2.2)) else (some false)))))) = some r := h
 clear h
 by_cases c2 : (l0.length : Int) > 1048576
 ·
  rw [if_pos c2] at H
  have c2b0 : decide (1048576 < (l0.length : Int)) = true := decide_eq_true c2
  have c2b1 : decide (1048576 < l0.length) = true := decide_eq_true (by omega)
  clear c2
  obtain rfl := Option.some.inj H
  go_enter Try.func10, Try.ntmps10
  go_wp2
  go_ret
  exact ⟨by first | rfl | (simp [errW_none, errW_some] <;> rfl) | (simp [*, errW_none, errW_some] <;> rfl), by exact bw HB.out⟩
 ·
  rw [if_neg c2] at H
  have c2b0 : decide (1048576 < (l0.length : Int)) = false := decide_eq_false c2
  have c2b1 : decide (1048576 < l0.length) = false := decide_eq_false (by omega)
  clear c2
  replace H := Option.bind_eq_some_iff.mp H
  obtain ⟨⟨t959, t960, t961, t962⟩, A30, H⟩ := H
  replace H : ((impl_ExprSize.f k t959 t960 t961 t962).bind fun t966 => ((spec_ExprSize.f k t959 t960 t961 t962).bind fun t967 => (if t966 = t967 then (if t966 = 0 then ((impl_ExprValid.f k t959 t960 t961 t962).bind fun t968 => (if t968 = true then (some false) else ((laws_alive.f k).bind fun t969 => (some t969)))) else (laws_FnExprSize.l0 k t966 1 0 t959 t960 t961 t962)) else (some false)))) = some r := H
  have A3 := Aside0.mk A30
  clear A30
  replace H := Option.bind_eq_some_iff.mp H
  obtain ⟨t966, A40, H⟩ := H
  replace H : ((spec_ExprSize.f k t959 t960 t961 t962).bind fun t967 => (if t966 = t967 then (if t966 = 0 then ((impl_ExprValid.f k t959 t960 t961 t962).bind fun t968 => (if t968 = true then (some false) else ((laws_alive.f k).bind fun t969 => (some t969)))) else (laws_FnExprSize.l0 k t966 1 0 t959 t960 t961 t962)) else (some false))) = some r := H
  have A4 := Aside0.mk A40
  clear A40
  replace H := Option.bind_eq_some_iff.mp H
  obtain ⟨t967, A50, H⟩ := H
  replace H : (if t966 = t967 then (if t966 = 0 then ((impl_ExprValid.f k t959 t960 t961 t962).bind fun t968 => (if t968 = true then (some false) else ((laws_alive.f k).bind fun t969 => (some t969)))) else (laws_FnExprSize.l0 k t966 1 0 t959 t960 t961 t962)) else (some false)) = some r := H
  have A5 := Aside0.mk A50
  clear A50
  have HC6 := Aside0.mk H
  clear H
  go_enter Try.func10, Try.ntmps10
  go_upto_if 17 with (first | ((with_reducible refine gate_callee (f := 37) rfl ?_); refine gl (some 11) Try.func37 #[.slice A0 l0.length c0] ?_; (with_reducible refine (spec_DrawExprSize.calls k _ _ l0 t959 t960 t961 t962 _ ?side1 ?side2 A3.out).mono ?_); (case side1 => repeat (first | exact HR0.out | (with_reducible refine Kd.C_alloc ?_ _) | (with_reducible refine Kd.C_drewN ?_ _) | (with_reducible refine Kd.C_drew ?_))); (case side2 => exact HC0.out); rintro e w7 ⟨v963, rfl, ho0, hb⟩; refine ⟨_, rfl, ?_⟩; have n0_ := Aside0.mk (Kd.V_lower (Kd.V_mono (ok' := fun k_ => True) ho0 (fun k_ hk_ => trivial)) (below_size (by exact bw HB.out))); have n1_ := Aside0.mk (below_step (by exact bw HB.out) hb); clear HB; have HO964 := n0_; have HB := n1_; clear n0_ n1_; (try clear hb); (try clear hb2); (try clear hk); (try clear hi); (try clear ho0)) | ((with_reducible refine gate_dst (N := 3) rfl ?_); refine box_event ?hg (N := 3) ?hd (cs := #[.int .i64 0, .int .i64 0, .string (⟨#[]⟩ : ByteArray), .slice none 0 0]) (t := 55) ?hr ?_; (case hd => rfl); (case hg => rfl); (case hr => first | (go_simp; done) | (go_simp; rfl)); intro gb965 hg w8 hbox hb; have n0_ := Aside0.mk (Kd.V_below (Kd.V_elderB (by exact Kd.xV HO964.out) gb965 (Nat.le_of_eq hg.symm)) hb); have n1_ := Aside0.mk (below_step (by exact bw HB.out) hb); have n2_ := Aside0.mk (hbox); have n3_ := Aside0.mk ((by rw [hg]; exact (below_size (by exact bw HB.out)) : w.heap.size ≤ gb965)); have n4_ := Aside0.mk ((by rw [hg]; exact (below_size (by exact bw HB.out)) : w.heap.size ≤ gb965)); clear HO964; clear HB; have HO964 := n0_; have HB := n1_; have BK965 := n2_; have GW965 := n3_; have GE965 := n4_; clear n0_ n1_ n2_ n3_ n4_; clear hb hbox hg; have hcz9_0 : w8.cell? ⟨gb965, 0, none⟩ = some (.int .i64 0) := (blk_cell BK965.out 0).trans rfl; have hcz9_1 : w8.cell? ⟨gb965, 1, none⟩ = some (.int .i64 0) := (blk_cell BK965.out 1).trans rfl; have hcz9_2 : w8.cell? ⟨gb965, 2, none⟩ = some (.string (⟨#[]⟩ : ByteArray)) := (blk_cell BK965.out 2).trans rfl; have hcz9_3 : w8.cell? ⟨gb965, 3, none⟩ = some (.slice none 0 0) := (blk_cell BK965.out 3).trans rfl; have hfz9_0 := blk_frozen BK965.out 0; have hfz9_1 := blk_frozen BK965.out 1; have hfz9_2 := blk_frozen BK965.out 2; have hfz9_3 := blk_frozen BK965.out 3; obtain ⟨Ao10, co10, eo10⟩ := Kd.V_slice HO964.out; subst eo10) | ((with_reducible refine gate_callee (f := 38) rfl ?_); refine gl (some 13) Try.func38 #[.agg #[.int .i64 t959, .int .i64 t960, .string t961, .slice Ao10 t962.length co10]] ?_; (with_reducible refine (impl_ExprSize.calls k t959 t960 t961 _ _ t962 t966 _ ?side1 ?side2 A4.out).mono ?_); (case side1 => refine (Kd.V_reads' (e := 55) (base := w.heap.size) (ok := fun k_ => (True ∧ k_ ≠ gb965)) (n := t962.length) (c := co10) ?_).2.2; exact (by (with_reducible repeat (first | apply Kd.V_alloc | apply Kd.V_drewN | apply Kd.V_drew)); exact (Kd.V_mono (Kd.V_far (p := ⟨gb965, 3, none⟩) (Kd.V_far (p := ⟨gb965, 2, none⟩) (Kd.V_far (p := ⟨gb965, 1, none⟩) (Kd.V_far (p := ⟨gb965, 0, none⟩) (Kd.V_mono HO964.out (fun k_ hk => (⟨hk, okp hk⟩ : _ ∧ k_ ≠ gb965))) (fun _ hk => hk.2) (.int .i64 t959)) (fun _ hk => hk.2) (.int .i64 t960)) (fun _ hk => hk.2) (.string t961)) (fun _ hk => hk.2) (.slice Ao10 t962.length co10)) (fun _ h_ => h_.1)))); (case side2 => exact (Kd.V_reads' HO964.out).2.1); rintro e w11 ⟨rfl, hb⟩; refine ⟨_, rfl, ?_⟩; have n0_ := Aside0.mk (Kd.V_below (by (with_reducible repeat (first | apply Kd.V_alloc | apply Kd.V_drewN | apply Kd.V_drew)); exact (Kd.V_mono (Kd.V_far (p := ⟨gb965, 3, none⟩) (Kd.V_far (p := ⟨gb965, 2, none⟩) (Kd.V_far (p := ⟨gb965, 1, none⟩) (Kd.V_far (p := ⟨gb965, 0, none⟩) (Kd.V_mono HO964.out (fun k_ hk => (⟨hk, okp hk⟩ : _ ∧ k_ ≠ gb965))) (fun _ hk => hk.2) (.int .i64 t959)) (fun _ hk => hk.2) (.int .i64 t960)) (fun _ hk => hk.2) (.string t961)) (fun _ hk => hk.2) (.slice Ao10 t962.length co10)) (fun _ h_ => h_.1))) hb); have n1_ := Aside0.mk (blk_below (g := gb965) (o := .cells #[.int .i64 t959, .int .i64 t960, .string t961, .slice Ao10 t962.length co10] 55 (0, 0)) (by (with_reducible repeat (first | refine blk_drewN ?_ _ | refine blk_drew ?_ | refine blk_alloc ?_ _)); refine blk_put (cs := #[.int .i64 t959, .int .i64 t960, .string t961, .slice none 0 0]) ?_ 3 _ rfl; (with_reducible repeat (first | refine blk_drewN ?_ _ | refine blk_drew ?_ | refine blk_alloc ?_ _)); refine blk_put (cs := #[.int .i64 t959, .int .i64 t960, .string (⟨#[]⟩ : ByteArray), .slice none 0 0]) ?_ 2 _ rfl; (with_reducible repeat (first | refine blk_drewN ?_ _ | refine blk_drew ?_ | refine blk_alloc ?_ _)); refine blk_put (cs := #[.int .i64 t959, .int .i64 0, .string (⟨#[]⟩ : ByteArray), .slice none 0 0]) ?_ 1 _ rfl; (with_reducible repeat (first | refine blk_drewN ?_ _ | refine blk_drew ?_ | refine blk_alloc ?_ _)); refine blk_put (cs := #[.int .i64 0, .int .i64 0, .string (⟨#[]⟩ : ByteArray), .slice none 0 0]) ?_ 0 _ rfl; exact bk BK965.out) hb); have n2_ := Aside0.mk (below_step (by exact bw HB.out) hb); clear HO964; clear BK965; clear HB; have HO964 := n0_; have BK965 := n1_; have HB := n2_; clear n0_ n1_ n2_; (try clear hb); (try clear hb2); (try clear hk); (try clear hi); have hcz12_0 : w11.cell? ⟨gb965, 0, none⟩ = some (.int .i64 t959) := (blk_cell BK965.out 0).trans rfl; have hcz12_1 : w11.cell? ⟨gb965, 1, none⟩ = some (.int .i64 t960) := (blk_cell BK965.out 1).trans rfl; have hcz12_2 : w11.cell? ⟨gb965, 2, none⟩ = some (.string t961) := (blk_cell BK965.out 2).trans rfl; have hcz12_3 : w11.cell? ⟨gb965, 3, none⟩ = some (.slice Ao10 t962.length co10) := (blk_cell BK965.out 3).trans rfl; have hfz12_0 := blk_frozen BK965.out 0; have hfz12_1 := blk_frozen BK965.out 1; have hfz12_2 := blk_frozen BK965.out 2; have hfz12_3 := blk_frozen BK965.out 3) | ((with_reducible refine gate_callee (f := 39) rfl ?_); refine gl (some 16) Try.func39 #[.agg #[.int .i64 t959, .int .i64 t960, .string t961, .slice Ao10 t962.length co10]] ?_; (with_reducible refine (spec_ExprSize.calls k t959 t960 t961 _ _ t962 t967 _ ?side1 ?side2 A5.out).mono ?_); (case side1 => repeat (first | exact (Kd.V_reads' HO964.out).2.2 | (with_reducible refine Kd.C_alloc ?_ _) | (with_reducible refine Kd.C_drewN ?_ _) | (with_reducible refine Kd.C_drew ?_))); (case side2 => exact (Kd.V_reads' HO964.out).2.1); rintro e w13 ⟨rfl, hb⟩; refine ⟨_, rfl, ?_⟩; have n0_ := Aside0.mk (Kd.V_below (by exact Kd.xV HO964.out) hb); have n1_ := Aside0.mk (blk_below (g := gb965) (o := .cells #[.int .i64 t959, .int .i64 t960, .string t961, .slice Ao10 t962.length co10] 55 (0, 0)) (by exact bk BK965.out) hb); have n2_ := Aside0.mk (below_step (by exact bw HB.out) hb); clear HO964; clear BK965; clear HB; have HO964 := n0_; have BK965 := n1_; have HB := n2_; clear n0_ n1_ n2_; (try clear hb); (try clear hb2); (try clear hk); (try clear hi)))
  (try simp only [Act.put, List.setIfInBounds_toArray, List.set_cons_zero, List.set_cons_succ])
  have H := HC6.out
  clear HC6
  by_cases c14 : t966 = t967
  ·
   rw [if_pos c14] at H
   have c14b0 : (t966 == t967) = true := beq_iff_eq.mpr c14
   have c14b1 : (t966 != t967) = false := bne_eq_false_iff_eq.mpr c14
   clear c14
   (first | rw [c14b0] | (simp only [i64_w, i32_w]; rw [c14b0]) | rw [c14b2] | rw [c14b1] | skip)
   by_cases c15 : t966 = 0
   ·
    rw [if_pos c15] at H
    have c15b0 : (t966 == 0) = true := beq_iff_eq.mpr c15
    have c15b1 : (t966 != 0) = false := bne_eq_false_iff_eq.mpr c15
    clear c15
    replace H := Option.bind_eq_some_iff.mp H
    obtain ⟨t968, A160, H⟩ := H
    replace H : (if t968 = true then (some false) else ((laws_alive.f k).bind fun t969 => (some t969))) = some r := H
    have A16 := Aside0.mk A160
    clear A160
    by_cases c17 : t968 = true
    ·
     subst c17
     have H1 : (some false) = some r := by rw [if_pos rfl] at H; exact H
     clear H
     have H := H1
     clear H1
     obtain rfl := Option.some.inj H
     have hcz18_0 : w13.cell? ⟨gb965, 0, none⟩ = some (.int .i64 t959) := (blk_cell BK965.out 0).trans rfl
     have hcz18_1 : w13.cell? ⟨gb965, 1, none⟩ = some (.int .i64 t960) := (blk_cell BK965.out 1).trans rfl
     have hcz18_2 : w13.cell? ⟨gb965, 2, none⟩ = some (.string t961) := (blk_cell BK965.out 2).trans rfl
     have hcz18_3 : w13.cell? ⟨gb965, 3, none⟩ = some (.slice Ao10 t962.length co10) := (blk_cell BK965.out 3).trans rfl
     have hfz18_0 := blk_frozen BK965.out 0
     have hfz18_1 := blk_frozen BK965.out 1
     have hfz18_2 := blk_frozen BK965.out 2
     have hfz18_3 := blk_frozen BK965.out 3
     go_wp2_with (first | ((with_reducible refine gate_callee (f := 40) rfl ?_); refine gl (some 21) Try.func40 #[.agg #[.int .i64 t959, .int .i64 t960, .string t961, .slice Ao10 t962.length co10]] ?_; (with_reducible refine (impl_ExprValid.calls k t959 t960 t961 _ _ t962 true _ ?side1 ?side2 A16.out).mono ?_); (case side1 => repeat (first | exact (Kd.V_reads' HO964.out).2.2 | (with_reducible refine Kd.C_alloc ?_ _) | (with_reducible refine Kd.C_drewN ?_ _) | (with_reducible refine Kd.C_drew ?_))); (case side2 => exact (Kd.V_reads' HO964.out).2.1); rintro e w19 ⟨rfl, hb⟩; refine ⟨_, rfl, ?_⟩; have n0_ := Aside0.mk (Kd.V_below (by exact Kd.xV HO964.out) hb); have n1_ := Aside0.mk (blk_below (g := gb965) (o := .cells #[.int .i64 t959, .int .i64 t960, .string t961, .slice Ao10 t962.length co10] 55 (0, 0)) (by exact bk BK965.out) hb); have n2_ := Aside0.mk (below_step (by exact bw HB.out) hb); clear HO964; clear BK965; clear HB; have HO964 := n0_; have BK965 := n1_; have HB := n2_; clear n0_ n1_ n2_; (try clear hb); (try clear hb2); (try clear hk); (try clear hi)))
     go_ret
     exact ⟨by first | rfl | (simp [errW_none, errW_some] <;> rfl) | (simp [*, errW_none, errW_some] <;> rfl), by exact bw HB.out⟩
    ·
     replace c17 := Bool.eq_false_iff.mpr c17
     subst c17
     have H1 : ((laws_alive.f k).bind fun t969 => (some t969)) = some r := by rw [if_neg (show ¬ (false = true) by decide)] at H; exact H
     clear H
     have H := H1
     clear H1
     replace H := Option.bind_eq_some_iff.mp H
     obtain ⟨t969, A200, H⟩ := H
     replace H : (some t969) = some r := H
     have A20 := Aside0.mk A200
     clear A200
     obtain rfl := Option.some.inj H
     have hcz21_0 : w13.cell? ⟨gb965, 0, none⟩ = some (.int .i64 t959) := (blk_cell BK965.out 0).trans rfl
     have hcz21_1 : w13.cell? ⟨gb965, 1, none⟩ = some (.int .i64 t960) := (blk_cell BK965.out 1).trans rfl
     have hcz21_2 : w13.cell? ⟨gb965, 2, none⟩ = some (.string t961) := (blk_cell BK965.out 2).trans rfl
     have hcz21_3 : w13.cell? ⟨gb965, 3, none⟩ = some (.slice Ao10 t962.length co10) := (blk_cell BK965.out 3).trans rfl
     have hfz21_0 := blk_frozen BK965.out 0
     have hfz21_1 := blk_frozen BK965.out 1
     have hfz21_2 := blk_frozen BK965.out 2
     have hfz21_3 := blk_frozen BK965.out 3
     go_wp2_with (first | ((with_reducible refine gate_callee (f := 40) rfl ?_); refine gl (some 21) Try.func40 #[.agg #[.int .i64 t959, .int .i64 t960, .string t961, .slice Ao10 t962.length co10]] ?_; (with_reducible refine (impl_ExprValid.calls k t959 t960 t961 _ _ t962 false _ ?side1 ?side2 A16.out).mono ?_); (case side1 => repeat (first | exact (Kd.V_reads' HO964.out).2.2 | (with_reducible refine Kd.C_alloc ?_ _) | (with_reducible refine Kd.C_drewN ?_ _) | (with_reducible refine Kd.C_drew ?_))); (case side2 => exact (Kd.V_reads' HO964.out).2.1); rintro e w22 ⟨rfl, hb⟩; refine ⟨_, rfl, ?_⟩; have n0_ := Aside0.mk (Kd.V_below (by exact Kd.xV HO964.out) hb); have n1_ := Aside0.mk (blk_below (g := gb965) (o := .cells #[.int .i64 t959, .int .i64 t960, .string t961, .slice Ao10 t962.length co10] 55 (0, 0)) (by exact bk BK965.out) hb); have n2_ := Aside0.mk (below_step (by exact bw HB.out) hb); clear HO964; clear BK965; clear HB; have HO964 := n0_; have BK965 := n1_; have HB := n2_; clear n0_ n1_ n2_; (try clear hb); (try clear hb2); (try clear hk); (try clear hi)) | (go_at_call 14; (with_reducible refine (laws_alive.calls k  t969 _ A20.out).mono ?_); rintro e w' ⟨rfl, ⟨nd, rfl⟩⟩))
     go_ret
     exact ⟨by first | rfl | (simp [errW_none, errW_some] <;> rfl) | (simp [*, errW_none, errW_some] <;> rfl), by exact bw HB.out⟩
   ·
    rw [if_neg c15] at H
    have c15b0 : (t966 == 0) = false := beq_eq_false_iff_ne.mpr c15
    have c15b1 : (t966 != 0) = true := bne_iff_ne.mpr c15
    have H' := Aside0.mk H
    clear H
    go_wp2
    go_loopg [5, 6] k (fun kq v5 v6 w' => ∃ (x5_1 : Int) (x6_1 : Int), v5 = .int .i64 x5_1 ∧ v6 = .int .i64 x6_1 ∧ Aside0 (laws_FnExprSize.l0 kq t966 x5_1 x6_1 t959 t960 t961 t962 = some r) ∧ Aside0 (kq ≤ k) ∧ Aside0 (Kd.V k55 55 w' w.heap.size (fun k_ => k_ ≠ gb965) (.slice Ao10 t962.length co10) t962) ∧ Aside0 (w'.heap[gb965]? = some (.cells #[.int .i64 t959, .int .i64 t960, .string t961, (.slice Ao10 t962.length co10)] 55 (0, 0))) ∧ Aside0 (Below w.heap.size w w'))
    case atStart => exact ⟨(1), (0), (by first | rfl | (simp; done) | (simp [*]; done)), (by first | rfl | (simp; done) | (simp [*]; done)), H', ⟨Nat.le_refl _⟩, ⟨by (with_reducible repeat (first | apply Kd.V_alloc | apply Kd.V_drewN | apply Kd.V_drew)); exact Kd.V_mono HO964.out (fun _ hk => hk.2)⟩, ⟨by exact bk BK965.out⟩, ⟨by exact bw HB.out⟩⟩
    case round =>
     clear H'
     try clear c1
     try clear c2
     try clear c2b0
     try clear c2b1
     try clear p2
     try clear c3
     try clear c4
     try clear c10
     try clear c14
     try clear c14b0
     try clear c14b1
     try clear c14b2
     try clear c15
     try clear c15b0
     try clear c15b1
     try clear c17
     try clear hcz12_0
     try clear hcz12_1
     try clear hcz12_2
     try clear hcz12_3
     try clear hcz18_0
     try clear hcz18_1
     try clear hcz18_2
     try clear hcz18_3
     try clear hcz21_0
     try clear hcz21_1
     try clear hcz21_2
     try clear hcz21_3
     try clear hcz9_0
     try clear hcz9_1
     try clear hcz9_2
     try clear hcz9_3
     try clear hfz12_0
     try clear hfz12_1
     try clear hfz12_2
     try clear hfz12_3
     try clear hfz18_0
     try clear hfz18_1
     try clear hfz18_2
     try clear hfz18_3
     try clear hfz21_0
     try clear hfz21_1
     try clear hfz21_2
     try clear hfz21_3
     try clear hfz9_0
     try clear hfz9_1
     try clear hfz9_2
     try clear hfz9_3
     obtain ⟨x5_1, x6_1, rfl, rfl, HA, HK1, HO_966003, BK965, HB⟩ := hrel
     cases gk with
     | zero => exact absurd HA.out (by simp [laws_FnExprSize.l0])
     | succ k1 =>
      have H := HA.out
      clear HA
      simp only [laws_FnExprSize.l0] at H
      by_cases c23 : x6_1 < (t962.length : Int)
      ·
       rw [if_pos c23] at H
       have c23b0 : decide (x6_1 < (t962.length : Int)) = true := decide_eq_true c23
       clear c23
       by_cases c24 : 0 ≤ x6_1
       ·
        rw [if_pos c24] at H
        have c24b0 : decide (0 ≤ x6_1) = true := decide_eq_true c24
        clear c24
        replace H := Option.bind_eq_some_iff.mp H
        obtain ⟨t971, A250, H⟩ := H
        replace H : (laws_FnExprSize.l0 k1 t966 (wrap64 (x5_1 + t971)) (wrap64 (x6_1 + 1)) t959 t960 t961 t962) = some r := H
        have A25 := Aside0.mk A250
        clear A250
        have H' := Aside0.mk H
        clear H
        have hcz26_0 : wr.cell? ⟨gb965, 0, none⟩ = some (.int .i64 t959) := (blk_cell BK965.out 0).trans rfl
        have hcz26_1 : wr.cell? ⟨gb965, 1, none⟩ = some (.int .i64 t960) := (blk_cell BK965.out 1).trans rfl
        have hcz26_2 : wr.cell? ⟨gb965, 2, none⟩ = some (.string t961) := (blk_cell BK965.out 2).trans rfl
        have hcz26_3 : wr.cell? ⟨gb965, 3, none⟩ = some (.slice Ao10 t962.length co10) := (blk_cell BK965.out 3).trans rfl
        have hfz26_0 := blk_frozen BK965.out 0
        have hfz26_1 := blk_frozen BK965.out 1
        have hfz26_2 := blk_frozen BK965.out 2
        have hfz26_3 := blk_frozen BK965.out 3
        have p970 : 0 ≤ (x6_1 : Int) := of_decide_eq_true (by first | (with_reducible assumption) | assumption)
        have q970 : x6_1 < (t962.length : Int) := of_decide_eq_true (by first | (with_reducible assumption) | assumption)
        obtain ⟨ad970, A970_3, c970_3, e970, hx970_0, hx970_1, hx970_2, hx970_3, hl970_3, hi970_3⟩ := at_T55 (Kd.V_reads' HO_966003.out).2.2 x6_1 p970 q970
        cases e970
        obtain ⟨ce970, hce970, hMe970, hcc970⟩ := Kd.V_get HO_966003.out z55 x6_1 p970 (by first | exact q970 | exact of_decide_eq_true (by first | (with_reducible assumption) | assumption) | (have e_ := (Kd.V_reads' HO_966003.out).1; omega))
        obtain ⟨ua970_3, uc970_3, rfl, ul970_3, ge970_3⟩ := k55_openF hMe970
        have hv970_3 := hcc970 3 _ rfl
        rw [add_field _ _ 3 (by omega)] at hv970_3
        replace hv970_3 := Option.some.inj (hv970_3.symm.trans hx970_3)
        injection hv970_3 with hva_ hvn_ hvc_
        rw [hva_] at ge970_3
        rw [hvc_] at ul970_3
        have HL970_3 := Aside0.mk (show Kd.V k55 55 _ w.heap.size _ _ ((rd_T55 t962 x6_1).f3) from Kd.V_mk ul970_3 ge970_3)
        clear hva_ hvn_ hvc_ ge970_3 ul970_3
        clear hcc970 hce970
        have HR970_3 := Aside0.mk hi970_3
        have HC970_3 := Aside0.mk hl970_3
        clear hi970_3 hl970_3
        replace p970 := eq_true p970
        replace q970 := eq_true q970
        go_wp2_with (first | ((with_reducible refine gate_callee (f := 38) rfl ?_); refine gl (some 39) Try.func38 #[.agg #[.int .i64 ((rd_T55 t962 x6_1).f0), .int .i64 ((rd_T55 t962 x6_1).f1), .string ((rd_T55 t962 x6_1).f2), .slice A970_3 ((rd_T55 t962 x6_1).f3).length c970_3]] ?_; (with_reducible refine (impl_ExprSize.calls k1 ((rd_T55 t962 x6_1).f0) ((rd_T55 t962 x6_1).f1) ((rd_T55 t962 x6_1).f2) _ _ ((rd_T55 t962 x6_1).f3) t971 _ ?side1 ?side2 A25.out).mono ?_); (case side1 => repeat (first | exact (by repeat (first | (with_reducible exact HR970_3.out) | (with_reducible refine Kd.C_alloc ?_ _) | (with_reducible refine Kd.C_drewN ?_ _) | (with_reducible refine Kd.C_drew ?_) | exact HR970_3.out)) | (with_reducible refine Kd.C_alloc ?_ _) | (with_reducible refine Kd.C_drewN ?_ _) | (with_reducible refine Kd.C_drew ?_))); (case side2 => exact HC970_3.out); rintro e w27 ⟨rfl, hb⟩; refine ⟨_, rfl, ?_⟩; have n0_ := Aside0.mk (Kd.V_below (by exact Kd.xV HO_966003.out) hb); have n1_ := Aside0.mk (Kd.V_below (by exact Kd.xV HL970_3.out) hb); have n2_ := Aside0.mk (blk_below (g := gb965) (o := .cells #[.int .i64 t959, .int .i64 t960, .string t961, .slice (some ad970) t962.length co10] 55 (0, 0)) (by exact bk BK965.out) hb); have n3_ := Aside0.mk (Kd.C_below (by repeat (first | (with_reducible exact HR970_3.out) | (with_reducible refine Kd.C_alloc ?_ _) | (with_reducible refine Kd.C_drewN ?_ _) | (with_reducible refine Kd.C_drew ?_) | exact HR970_3.out)) hb); have n4_ := Aside0.mk (below_step (by exact bw HB.out) hb); clear HO_966003; clear HL970_3; clear BK965; clear HR970_3; clear HB; have HO_966003 := n0_; have HL970_3 := n1_; have BK965 := n2_; have HR970_3 := n3_; have HB := n4_; clear n0_ n1_ n2_ n3_ n4_; (try clear hb); (try clear hb2); (try clear hk); (try clear hi)))
        go_roundg k1
        case measure => have := HK1.out; omega
        case rel => exact ⟨(wrap64 (x5_1 + t971)), (wrap64 (x6_1 + 1)), (by first | rfl | (simp; done) | (simp [*]; done)), (by first | rfl | (simp; done) | (simp [*]; done)), H', ⟨by have := HK1.out; omega⟩, ⟨by exact Kd.xV HO_966003.out⟩, ⟨by exact bk BK965.out⟩, ⟨by exact bw HB.out⟩⟩
       ·
        rw [if_neg c24] at H
        exact absurd H (by simp)
      ·
       rw [if_neg c23] at H
       have c23b0 : decide (x6_1 < (t962.length : Int)) = false := decide_eq_false c23
       clear c23
       by_cases c28 : x5_1 = t966
       ·
        rw [if_pos c28] at H
        have c28b0 : (x5_1 == t966) = true := beq_iff_eq.mpr c28
        have c28b1 : (x5_1 != t966) = false := bne_eq_false_iff_eq.mpr c28
        clear c28
        obtain rfl := Option.some.inj H
        have hcz29_0 : wr.cell? ⟨gb965, 0, none⟩ = some (.int .i64 t959) := (blk_cell BK965.out 0).trans rfl
        have hcz29_1 : wr.cell? ⟨gb965, 1, none⟩ = some (.int .i64 t960) := (blk_cell BK965.out 1).trans rfl
        have hcz29_2 : wr.cell? ⟨gb965, 2, none⟩ = some (.string t961) := (blk_cell BK965.out 2).trans rfl
        have hcz29_3 : wr.cell? ⟨gb965, 3, none⟩ = some (.slice Ao10 t962.length co10) := (blk_cell BK965.out 3).trans rfl
        have hfz29_0 := blk_frozen BK965.out 0
        have hfz29_1 := blk_frozen BK965.out 1
        have hfz29_2 := blk_frozen BK965.out 2
        have hfz29_3 := blk_frozen BK965.out 3
        go_wp2
        go_ret
        exact ⟨by first | rfl | (simp [errW_none, errW_some] <;> rfl) | (simp [*, errW_none, errW_some] <;> rfl), by exact bw HB.out⟩
       ·
        rw [if_neg c28] at H
        have c28b0 : (x5_1 == t966) = false := beq_eq_false_iff_ne.mpr c28
        have c28b1 : (x5_1 != t966) = true := bne_iff_ne.mpr c28
        obtain rfl := Option.some.inj H
        have hcz30_0 : wr.cell? ⟨gb965, 0, none⟩ = some (.int .i64 t959) := (blk_cell BK965.out 0).trans rfl
        have hcz30_1 : wr.cell? ⟨gb965, 1, none⟩ = some (.int .i64 t960) := (blk_cell BK965.out 1).trans rfl
        have hcz30_2 : wr.cell? ⟨gb965, 2, none⟩ = some (.string t961) := (blk_cell BK965.out 2).trans rfl
        have hcz30_3 : wr.cell? ⟨gb965, 3, none⟩ = some (.slice Ao10 t962.length co10) := (blk_cell BK965.out 3).trans rfl
        have hfz30_0 := blk_frozen BK965.out 0
        have hfz30_1 := blk_frozen BK965.out 1
        have hfz30_2 := blk_frozen BK965.out 2
        have hfz30_3 := blk_frozen BK965.out 3
        go_wp2
        go_ret
        exact ⟨by first | rfl | (simp [errW_none, errW_some] <;> rfl) | (simp [*, errW_none, errW_some] <;> rfl), by exact bw HB.out⟩
  ·
   rw [if_neg c14] at H
   have c14b0 : (t966 == t967) = false := beq_eq_false_iff_ne.mpr c14
   have c14b1 : (t966 != t967) = true := bne_iff_ne.mpr c14
   (first | rw [c14b0] | (simp only [i64_w, i32_w]; rw [c14b0]) | rw [c14b2] | rw [c14b1] | skip)
   obtain rfl := Option.some.inj H
   go_wp2
   go_ret
   exact ⟨by first | rfl | (simp [errW_none, errW_some] <;> rfl) | (simp [*, errW_none, errW_some] <;> rfl), by exact bw HB.out⟩

/-- THE ONE PURE STATEMENT of laws_FnExprSize: yours. -/
def laws_FnExprSize.Pure : Prop := ∀ (l0 : List Int), l0.length ≤ maxLen → l0.length * 1 ≤ 140737488351232 → (∀ x ∈ l0, (Lit.int .u8 x).wf = true) → ∃ k, laws_FnExprSize.f k l0 = some true
theorem laws_FnExprSize.walk (P : laws_FnExprSize.Pure) (a0 : Option Addr) (len0 cap0 : Nat) (z0 : List Int) (w : World) (w0 : (a0 = none ∧ len0 = 0 ∧ cap0 = 0 ∧ z0 = []) ∨ ∃ x, a0 = some x ∧ len0 ≤ cap0 ∧ cap0 ≤ maxLen ∧ z0.length = cap0 ∧ (∀ i, i < z0.length → w.cell? (x.add i) = some (.int .u8 (z0.getD i 0))) ∧ ∀ n ∈ z0, (Lit.int .u8 n).wf = true) (y0 : len0 * 1 ≤ 140737488351232) :
  Calls Try.prog 10 #[.slice a0 len0 cap0] w fun e w' => e = .returned (.bool true) ∧ Below w.heap.size w w' := by
 obtain ⟨l0, rfl, hr0, hm0, hw0, hc0⟩ := ReadsInt.ofRowC w0
 obtain ⟨k, h⟩ := P l0 hm0 y0 hw0
 refine (laws_FnExprSize.calls k _ _ l0 true w (Kd.C_of_reads (d := (0 : Int)) (h1 := fun _ => rfl) hr0) hc0 h).mono ?_
 rintro e w' ⟨rfl, hd⟩
 exact ⟨rfl, hd⟩

end Go.Proofs.Ytejfaenmgdkaoaa.P
