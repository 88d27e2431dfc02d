-- Written by a program of this session (wip/tool).
import Derived.Test.YtongmkdapcgmfaaPx0
import Derived.Test.YtongmkdapcgmfaaPx22
import Derived.Test.YtongmkdapcgmfaaPx23
import Derived.Test.YtongmkdapcgmfaaPx24
namespace Go.Proofs.Ytongmkdapcgmfaa.P
open Go.RowKit Go.Proofs.YtongmkdapcgmfaaW.PrintWords Go.Proofs.YtongmkdapcgmfaaW.PrintLast Go.Proofs.YtongmkdapcgmfaaW.PrintMore
attribute [local go_sem] max2_int min2_int max_two min_two max_three min_three max_four min_four   -- for this text's walks alone
set_option linter.unusedVariables false
set_option linter.unusedSimpArgs false

/-! ### spec_ExprValid: function 51 -/
def spec_ExprValid.f (k : Nat) (a0_0 : Int) (a0_1 : Int) (a0_2 : ByteArray) (l0_3 : List (S25)) : Option (Bool) := (spec_l4Good.f k a0_0 a0_1 a0_2 l0_3).bind fun t488 => (if t488 = true then ((spec_l4Size.f k a0_0 a0_1 a0_2 l0_3).bind fun t489 => (if t489 ≤ 40 then ((spec_l4Deep.f k a0_0 a0_1 a0_2 l0_3).bind fun t490 => (some (decide (t490 ≤ 7)))) else (some false))) else (some false))
theorem spec_ExprValid.mono : ∀ a0 a1 a2 a3 k, LeO (spec_ExprValid.f k a0 a1 a2 a3) (spec_ExprValid.f (k + 1) a0 a1 a2 a3) := by
 intro a0 a1 a2 a3 k
 unfold spec_ExprValid.f
 repeat' first
   | (with_reducible exact spec_l4Deep.mono _ _ _ _ _)
   | (with_reducible exact spec_l4Good.mono _ _ _ _ _)
   | (with_reducible exact spec_l4Size.mono _ _ _ _ _)
   | (with_reducible exact LeO.refl _)
   | (with_reducible exact LeO.none _)
   | (with_reducible refine LeO.ite ?_ ?_)
   | (with_reducible refine LeO.bind ?_ (fun _ => ?_))
   | exact spec_l4Deep.mono _ _ _ _ _
   | exact spec_l4Good.mono _ _ _ _ _
   | exact spec_l4Size.mono _ _ _ _ _
   | exact LeO.none _
   | refine LeO.ite ?_ ?_
   | refine LeO.bind ?_ (fun _ => ?_)
set_option maxHeartbeats 8000000 in
set_option maxRecDepth 100000 in
theorem spec_ExprValid.calls (k : Nat) (a0_0 : Int) (a0_1 : Int) (a0_2 : ByteArray) (A0_3 : Option Addr) (c0_3 : Nat) (l0_3 : List (S25)) (r : Bool) (w : World) (hr0_3 : Kd.C k25 w A0_3 l0_3.length l0_3) (hc0_3 : l0_3.length ≤ c0_3) (h : spec_ExprValid.f k a0_0 a0_1 a0_2 l0_3 = some r) :
  Calls Try.prog 51 #[.agg #[.int .i64 a0_0, .int .i64 a0_1, .string a0_2, .slice A0_3 l0_3.length c0_3]] w fun e w' => e = .returned (.bool r) ∧ Below w.heap.size w w' := by
 have hu25 := Try.underlying25
 have HR0_3 := Aside0.mk hr0_3
 have HC0_3 := Aside0.mk hc0_3
 clear hr0_3 hc0_3
 have HB := Aside0.mk (Below.refl w.heap.size w)
 have H : ((spec_l4Good.f k a0_0 a0_1 a0_2 l0_3).bind fun t488 => (if t488 = true then ((spec_l4Size.f k a0_0 a0_1 a0_2 l0_3).bind fun t489 => (if t489 ≤ 40 then ((spec_l4Deep.f k a0_0 a0_1 a0_2 l0_3).bind fun t490 => (some (decide (t490 ≤ 7)))) else (some false))) else (some false))) = some r := h
 clear h
 replace H := Option.bind_eq_some_iff.mp H
 obtain ⟨t488, A20, H⟩ := H
 replace H : (if t488 = true then ((spec_l4Size.f k a0_0 a0_1 a0_2 l0_3).bind fun t489 => (if t489 ≤ 40 then ((spec_l4Deep.f k a0_0 a0_1 a0_2 l0_3).bind fun t490 => (some (decide (t490 ≤ 7)))) else (some false))) else (some false)) = some r := H
 have A2 := Aside0.mk A20
 clear A20
 by_cases c3 : t488 = true
 ·
  subst c3
  have H1 : ((spec_l4Size.f k a0_0 a0_1 a0_2 l0_3).bind fun t489 => (if t489 ≤ 40 then ((spec_l4Deep.f k a0_0 a0_1 a0_2 l0_3).bind fun t490 => (some (decide (t490 ≤ 7)))) else (some false))) = some r := by rw [if_pos rfl] at H; exact H
  clear H
  have H := H1
  clear H1
  replace H := Option.bind_eq_some_iff.mp H
  obtain ⟨t489, A40, H⟩ := H
  replace H : (if t489 ≤ 40 then ((spec_l4Deep.f k a0_0 a0_1 a0_2 l0_3).bind fun t490 => (some (decide (t490 ≤ 7)))) else (some false)) = some r := H
  have A4 := Aside0.mk A40
  clear A40
  by_cases c5 : t489 ≤ 40
  ·
   rw [if_pos c5] at H
   have c5b0 : decide (t489 ≤ 40) = true := decide_eq_true c5
   clear c5
   replace H := Option.bind_eq_some_iff.mp H
   obtain ⟨t490, A60, H⟩ := H
   replace H : (some (decide (t490 ≤ 7))) = some r := H
   have A6 := Aside0.mk A60
   clear A60
   obtain rfl := Option.some.inj H
   go_enter Try.func51, Try.ntmps51
   go_wp2_with (first | ((with_reducible refine gate_dst (N := 1) rfl ?_); refine box_event ?hg (N := 1) ?hd (cs := #[.int .i64 a0_0, .int .i64 a0_1, .string a0_2, .slice A0_3 l0_3.length c0_3]) (t := 25) ?hr ?_; (case hd => rfl); (case hg => rfl); (case hr => first | (go_simp; done) | (go_simp; rfl)); intro gb487 hg w7 hbox hb; have n0_ := Aside0.mk (below_step (by exact bw HB.out) hb); have n1_ := Aside0.mk (hbox); have n2_ := Aside0.mk ((by rw [hg]; exact (below_size (by exact bw HB.out)) : w.heap.size ≤ gb487)); have n3_ := Aside0.mk ((by rw [hg]; exact (below_size (by exact bw HB.out)) : w.heap.size ≤ gb487)); clear HB; have HB := n0_; have BK487 := n1_; have GW487 := n2_; have GE487 := n3_; clear n0_ n1_ n2_ n3_; clear hb hbox hg; have hcz8_0 : w7.cell? ⟨gb487, 0, none⟩ = some (.int .i64 a0_0) := (blk_cell BK487.out 0).trans rfl; have hcz8_1 : w7.cell? ⟨gb487, 1, none⟩ = some (.int .i64 a0_1) := (blk_cell BK487.out 1).trans rfl; have hcz8_2 : w7.cell? ⟨gb487, 2, none⟩ = some (.string a0_2) := (blk_cell BK487.out 2).trans rfl; have hcz8_3 : w7.cell? ⟨gb487, 3, none⟩ = some (.slice A0_3 l0_3.length c0_3) := (blk_cell BK487.out 3).trans rfl; have hfz8_0 := blk_frozen BK487.out 0; have hfz8_1 := blk_frozen BK487.out 1; have hfz8_2 := blk_frozen BK487.out 2; have hfz8_3 := blk_frozen BK487.out 3) | ((with_reducible refine gate_callee (f := 77) rfl ?_); refine gl (some 4) Try.func77 #[.agg #[.int .i64 a0_0, .int .i64 a0_1, .string a0_2, .slice A0_3 l0_3.length c0_3]] ?_; (with_reducible refine (spec_l4Good.calls k a0_0 a0_1 a0_2 _ _ l0_3 true _ ?side1 ?side2 A2.out).mono ?_); (case side1 => repeat (first | exact (Kd.C_below HR0_3.out HB.out) | (with_reducible refine Kd.C_alloc ?_ _) | (with_reducible refine Kd.C_drewN ?_ _) | (with_reducible refine Kd.C_drew ?_))); (case side2 => exact HC0_3.out); rintro e w9 ⟨rfl, hb⟩; refine ⟨_, rfl, ?_⟩; have n0_ := Aside0.mk (blk_below (g := gb487) (o := .cells #[.int .i64 a0_0, .int .i64 a0_1, .string a0_2, .slice A0_3 l0_3.length c0_3] 25 (0, 0)) (by exact bk BK487.out) hb); have n1_ := Aside0.mk (below_step (by exact bw HB.out) hb); clear BK487; clear HB; have BK487 := n0_; have HB := n1_; clear n0_ n1_; (try clear hb); (try clear hb2); (try clear hk); (try clear hi); have hcz10_0 : w9.cell? ⟨gb487, 0, none⟩ = some (.int .i64 a0_0) := (blk_cell BK487.out 0).trans rfl; have hcz10_1 : w9.cell? ⟨gb487, 1, none⟩ = some (.int .i64 a0_1) := (blk_cell BK487.out 1).trans rfl; have hcz10_2 : w9.cell? ⟨gb487, 2, none⟩ = some (.string a0_2) := (blk_cell BK487.out 2).trans rfl; have hcz10_3 : w9.cell? ⟨gb487, 3, none⟩ = some (.slice A0_3 l0_3.length c0_3) := (blk_cell BK487.out 3).trans rfl; have hfz10_0 := blk_frozen BK487.out 0; have hfz10_1 := blk_frozen BK487.out 1; have hfz10_2 := blk_frozen BK487.out 2; have hfz10_3 := blk_frozen BK487.out 3) | (go_at_call 78; (with_reducible refine (spec_l4Size.calls k a0_0 a0_1 a0_2 _ _ l0_3 t489 _ ?side1 ?side2 A4.out).mono ?_); (case side1 => repeat (first | exact (Kd.C_below HR0_3.out HB.out) | (with_reducible refine Kd.C_alloc ?_ _) | (with_reducible refine Kd.C_drewN ?_ _) | (with_reducible refine Kd.C_drew ?_))); (case side2 => exact HC0_3.out); rintro e w11 ⟨rfl, hb⟩; have n0_ := Aside0.mk (blk_below (g := gb487) (o := .cells #[.int .i64 a0_0, .int .i64 a0_1, .string a0_2, .slice A0_3 l0_3.length c0_3] 25 (0, 0)) (by exact bk BK487.out) hb); have n1_ := Aside0.mk (below_step (by exact bw HB.out) hb); clear BK487; clear HB; have BK487 := n0_; have HB := n1_; clear n0_ n1_; (try clear hb); (try clear hb2); (try clear hk); (try clear hi); have hcz12_0 : w11.cell? ⟨gb487, 0, none⟩ = some (.int .i64 a0_0) := (blk_cell BK487.out 0).trans rfl; have hcz12_1 : w11.cell? ⟨gb487, 1, none⟩ = some (.int .i64 a0_1) := (blk_cell BK487.out 1).trans rfl; have hcz12_2 : w11.cell? ⟨gb487, 2, none⟩ = some (.string a0_2) := (blk_cell BK487.out 2).trans rfl; have hcz12_3 : w11.cell? ⟨gb487, 3, none⟩ = some (.slice A0_3 l0_3.length c0_3) := (blk_cell BK487.out 3).trans rfl; have hfz12_0 := blk_frozen BK487.out 0; have hfz12_1 := blk_frozen BK487.out 1; have hfz12_2 := blk_frozen BK487.out 2; have hfz12_3 := blk_frozen BK487.out 3) | (go_at_call 79; (with_reducible refine (spec_l4Deep.calls k a0_0 a0_1 a0_2 _ _ l0_3 t490 _ ?side1 ?side2 A6.out).mono ?_); (case side1 => repeat (first | exact (Kd.C_below HR0_3.out HB.out) | (with_reducible refine Kd.C_alloc ?_ _) | (with_reducible refine Kd.C_drewN ?_ _) | (with_reducible refine Kd.C_drew ?_))); (case side2 => exact HC0_3.out); rintro e w13 ⟨rfl, hb⟩; have n0_ := Aside0.mk (blk_below (g := gb487) (o := .cells #[.int .i64 a0_0, .int .i64 a0_1, .string a0_2, .slice A0_3 l0_3.length c0_3] 25 (0, 0)) (by exact bk BK487.out) hb); have n1_ := Aside0.mk (below_step (by exact bw HB.out) hb); clear BK487; clear HB; have BK487 := n0_; have HB := n1_; clear n0_ n1_; (try clear hb); (try clear hb2); (try clear hk); (try clear hi)))
   go_ret
   exact ⟨by first | rfl | (simp [errW_none, errW_some] <;> rfl) | (simp [*, errW_none, errW_some] <;> rfl), by exact bw HB.out⟩
  ·
   rw [if_neg c5] at H
   have c5b0 : decide (t489 ≤ 40) = false := decide_eq_false c5
   clear c5
   obtain rfl := Option.some.inj H
   go_enter Try.func51, Try.ntmps51
   go_wp2_with (first | ((with_reducible refine gate_dst (N := 1) rfl ?_); refine box_event ?hg (N := 1) ?hd (cs := #[.int .i64 a0_0, .int .i64 a0_1, .string a0_2, .slice A0_3 l0_3.length c0_3]) (t := 25) ?hr ?_; (case hd => rfl); (case hg => rfl); (case hr => first | (go_simp; done) | (go_simp; rfl)); intro gb487 hg w14 hbox hb; have n0_ := Aside0.mk (below_step (by exact bw HB.out) hb); have n1_ := Aside0.mk (hbox); have n2_ := Aside0.mk ((by rw [hg]; exact (below_size (by exact bw HB.out)) : w.heap.size ≤ gb487)); have n3_ := Aside0.mk ((by rw [hg]; exact (below_size (by exact bw HB.out)) : w.heap.size ≤ gb487)); clear HB; have HB := n0_; have BK487 := n1_; have GW487 := n2_; have GE487 := n3_; clear n0_ n1_ n2_ n3_; clear hb hbox hg; have hcz15_0 : w14.cell? ⟨gb487, 0, none⟩ = some (.int .i64 a0_0) := (blk_cell BK487.out 0).trans rfl; have hcz15_1 : w14.cell? ⟨gb487, 1, none⟩ = some (.int .i64 a0_1) := (blk_cell BK487.out 1).trans rfl; have hcz15_2 : w14.cell? ⟨gb487, 2, none⟩ = some (.string a0_2) := (blk_cell BK487.out 2).trans rfl; have hcz15_3 : w14.cell? ⟨gb487, 3, none⟩ = some (.slice A0_3 l0_3.length c0_3) := (blk_cell BK487.out 3).trans rfl; have hfz15_0 := blk_frozen BK487.out 0; have hfz15_1 := blk_frozen BK487.out 1; have hfz15_2 := blk_frozen BK487.out 2; have hfz15_3 := blk_frozen BK487.out 3) | ((with_reducible refine gate_callee (f := 77) rfl ?_); refine gl (some 4) Try.func77 #[.agg #[.int .i64 a0_0, .int .i64 a0_1, .string a0_2, .slice A0_3 l0_3.length c0_3]] ?_; (with_reducible refine (spec_l4Good.calls k a0_0 a0_1 a0_2 _ _ l0_3 true _ ?side1 ?side2 A2.out).mono ?_); (case side1 => repeat (first | exact (Kd.C_below HR0_3.out HB.out) | (with_reducible refine Kd.C_alloc ?_ _) | (with_reducible refine Kd.C_drewN ?_ _) | (with_reducible refine Kd.C_drew ?_))); (case side2 => exact HC0_3.out); rintro e w16 ⟨rfl, hb⟩; refine ⟨_, rfl, ?_⟩; have n0_ := Aside0.mk (blk_below (g := gb487) (o := .cells #[.int .i64 a0_0, .int .i64 a0_1, .string a0_2, .slice A0_3 l0_3.length c0_3] 25 (0, 0)) (by exact bk BK487.out) hb); have n1_ := Aside0.mk (below_step (by exact bw HB.out) hb); clear BK487; clear HB; have BK487 := n0_; have HB := n1_; clear n0_ n1_; (try clear hb); (try clear hb2); (try clear hk); (try clear hi); have hcz17_0 : w16.cell? ⟨gb487, 0, none⟩ = some (.int .i64 a0_0) := (blk_cell BK487.out 0).trans rfl; have hcz17_1 : w16.cell? ⟨gb487, 1, none⟩ = some (.int .i64 a0_1) := (blk_cell BK487.out 1).trans rfl; have hcz17_2 : w16.cell? ⟨gb487, 2, none⟩ = some (.string a0_2) := (blk_cell BK487.out 2).trans rfl; have hcz17_3 : w16.cell? ⟨gb487, 3, none⟩ = some (.slice A0_3 l0_3.length c0_3) := (blk_cell BK487.out 3).trans rfl; have hfz17_0 := blk_frozen BK487.out 0; have hfz17_1 := blk_frozen BK487.out 1; have hfz17_2 := blk_frozen BK487.out 2; have hfz17_3 := blk_frozen BK487.out 3) | (go_at_call 78; (with_reducible refine (spec_l4Size.calls k a0_0 a0_1 a0_2 _ _ l0_3 t489 _ ?side1 ?side2 A4.out).mono ?_); (case side1 => repeat (first | exact (Kd.C_below HR0_3.out HB.out) | (with_reducible refine Kd.C_alloc ?_ _) | (with_reducible refine Kd.C_drewN ?_ _) | (with_reducible refine Kd.C_drew ?_))); (case side2 => exact HC0_3.out); rintro e w18 ⟨rfl, hb⟩; have n0_ := Aside0.mk (blk_below (g := gb487) (o := .cells #[.int .i64 a0_0, .int .i64 a0_1, .string a0_2, .slice A0_3 l0_3.length c0_3] 25 (0, 0)) (by exact bk BK487.out) hb); have n1_ := Aside0.mk (below_step (by exact bw HB.out) hb); clear BK487; clear HB; have BK487 := n0_; have HB := n1_; clear n0_ n1_; (try clear hb); (try clear hb2); (try clear hk); (try clear hi)))
   go_ret
   exact ⟨by first | rfl | (simp [errW_none, errW_some] <;> rfl) | (simp [*, errW_none, errW_some] <;> rfl), by exact bw HB.out⟩
 ·
  replace c3 := Bool.eq_false_iff.mpr c3
  subst c3
  have H1 : (some false) = some r := by rw [if_neg (show ¬ (false = true) by decide)] at H; exact H
  clear H
  have H := H1
  clear H1
  obtain rfl := Option.some.inj H
  go_enter Try.func51, Try.ntmps51
  go_wp2_with (first | ((with_reducible refine gate_dst (N := 1) rfl ?_); refine box_event ?hg (N := 1) ?hd (cs := #[.int .i64 a0_0, .int .i64 a0_1, .string a0_2, .slice A0_3 l0_3.length c0_3]) (t := 25) ?hr ?_; (case hd => rfl); (case hg => rfl); (case hr => first | (go_simp; done) | (go_simp; rfl)); intro gb487 hg w19 hbox hb; have n0_ := Aside0.mk (below_step (by exact bw HB.out) hb); have n1_ := Aside0.mk (hbox); have n2_ := Aside0.mk ((by rw [hg]; exact (below_size (by exact bw HB.out)) : w.heap.size ≤ gb487)); have n3_ := Aside0.mk ((by rw [hg]; exact (below_size (by exact bw HB.out)) : w.heap.size ≤ gb487)); clear HB; have HB := n0_; have BK487 := n1_; have GW487 := n2_; have GE487 := n3_; clear n0_ n1_ n2_ n3_; clear hb hbox hg; have hcz20_0 : w19.cell? ⟨gb487, 0, none⟩ = some (.int .i64 a0_0) := (blk_cell BK487.out 0).trans rfl; have hcz20_1 : w19.cell? ⟨gb487, 1, none⟩ = some (.int .i64 a0_1) := (blk_cell BK487.out 1).trans rfl; have hcz20_2 : w19.cell? ⟨gb487, 2, none⟩ = some (.string a0_2) := (blk_cell BK487.out 2).trans rfl; have hcz20_3 : w19.cell? ⟨gb487, 3, none⟩ = some (.slice A0_3 l0_3.length c0_3) := (blk_cell BK487.out 3).trans rfl; have hfz20_0 := blk_frozen BK487.out 0; have hfz20_1 := blk_frozen BK487.out 1; have hfz20_2 := blk_frozen BK487.out 2; have hfz20_3 := blk_frozen BK487.out 3) | ((with_reducible refine gate_callee (f := 77) rfl ?_); refine gl (some 4) Try.func77 #[.agg #[.int .i64 a0_0, .int .i64 a0_1, .string a0_2, .slice A0_3 l0_3.length c0_3]] ?_; (with_reducible refine (spec_l4Good.calls k a0_0 a0_1 a0_2 _ _ l0_3 false _ ?side1 ?side2 A2.out).mono ?_); (case side1 => repeat (first | exact (Kd.C_below HR0_3.out HB.out) | (with_reducible refine Kd.C_alloc ?_ _) | (with_reducible refine Kd.C_drewN ?_ _) | (with_reducible refine Kd.C_drew ?_))); (case side2 => exact HC0_3.out); rintro e w21 ⟨rfl, hb⟩; refine ⟨_, rfl, ?_⟩; have n0_ := Aside0.mk (blk_below (g := gb487) (o := .cells #[.int .i64 a0_0, .int .i64 a0_1, .string a0_2, .slice A0_3 l0_3.length c0_3] 25 (0, 0)) (by exact bk BK487.out) hb); have n1_ := Aside0.mk (below_step (by exact bw HB.out) hb); clear BK487; clear HB; have BK487 := n0_; have HB := n1_; clear n0_ n1_; (try clear hb); (try clear hb2); (try clear hk); (try clear hi)))
  go_ret
  exact ⟨by first | rfl | (simp [errW_none, errW_some] <;> rfl) | (simp [*, errW_none, errW_some] <;> rfl), by exact bw HB.out⟩

end Go.Proofs.Ytongmkdapcgmfaa.P
