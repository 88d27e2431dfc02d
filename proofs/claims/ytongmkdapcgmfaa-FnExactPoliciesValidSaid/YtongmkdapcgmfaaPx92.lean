-- Written by a program of this session (wip/tool).
import Derived.Test.YtongmkdapcgmfaaPx0
import Derived.Test.YtongmkdapcgmfaaPx91
namespace Go.Proofs.Ytongmkdapcgmfaa.P
open Go.RowKit Go.Proofs.YtongmkdapcgmfaaW.PrintWords Go.Proofs.YtongmkdapcgmfaaW.PrintLast Go.Proofs.YtongmkdapcgmfaaW.PrintMore
attribute [local go_sem] max2_int min2_int max_two min_two max_three min_three max_four min_four   -- for this text's walks alone
set_option linter.unusedVariables false
set_option linter.unusedSimpArgs false

/-! ### laws_szPolicy: function 72 -/
def laws_szPolicy.f (k : Nat) (a0_0 : ByteArray) (a0_1 : Bool) (a0_2 : Int) (a0_3 : Int) (a0_4 : Int) (a0_5 : Int) (a0_6 : Int) (a0_7 : ByteArray) (l0_8 : List (S99)) (a1 : Int) : Option (Int) := if (wrap64 (a1 - (a0_0.size : Int))) < 0 then (some (-1)) else ((laws_szExpr.f k a0_5 a0_6 a0_7 l0_8 (wrap64 (a1 - (a0_0.size : Int)))).bind fun t823 => (if t823 < 0 then (some (-1)) else (some t823)))
theorem laws_szPolicy.mono : ∀ a0 a1 a2 a3 a4 a5 a6 a7 a8 a9 k, LeO (laws_szPolicy.f k a0 a1 a2 a3 a4 a5 a6 a7 a8 a9) (laws_szPolicy.f (k + 1) a0 a1 a2 a3 a4 a5 a6 a7 a8 a9) := by
 intro a0 a1 a2 a3 a4 a5 a6 a7 a8 a9 k
 unfold laws_szPolicy.f
 repeat' first
   | (with_reducible exact laws_szExpr.mono _ _ _ _ _ _)
   | (with_reducible exact LeO.refl _)
   | (with_reducible exact LeO.none _)
   | (with_reducible refine LeO.ite ?_ ?_)
   | (with_reducible refine LeO.bind ?_ (fun _ => ?_))
   | exact laws_szExpr.mono _ _ _ _ _ _
   | exact LeO.none _
   | refine LeO.ite ?_ ?_
   | refine LeO.bind ?_ (fun _ => ?_)
set_option maxHeartbeats 8000000 in
set_option maxRecDepth 100000 in
theorem laws_szPolicy.calls (k : Nat) (a0_0 : ByteArray) (a0_1 : Bool) (a0_2 : Int) (a0_3 : Int) (a0_4 : Int) (a0_5 : Int) (a0_6 : Int) (a0_7 : ByteArray) (A0_8 : Option Addr) (c0_8 : Nat) (l0_8 : List (S99)) (a1 : Int) (r : Int) (w : World) (hr0_8 : Kd.C k99 w A0_8 l0_8.length l0_8) (hc0_8 : l0_8.length ≤ c0_8) (h : laws_szPolicy.f k a0_0 a0_1 a0_2 a0_3 a0_4 a0_5 a0_6 a0_7 l0_8 a1 = some r) :
  Calls Try.prog 72 #[.agg #[.string a0_0, .bool a0_1, .int .i64 a0_2, .int .i64 a0_3, .int .i64 a0_4, .int .i64 a0_5, .int .i64 a0_6, .string a0_7, .slice A0_8 l0_8.length c0_8], .int .i64 a1] w fun e w' => e = .returned (.int .i64 r) ∧ Below w.heap.size w w' := by
 have hu101 := Try.underlying101
 have hu99 := Try.underlying99
 have HR0_8 := Aside0.mk hr0_8
 have HC0_8 := Aside0.mk hc0_8
 clear hr0_8 hc0_8
 have HB := Aside0.mk (Below.refl w.heap.size w)
 have H : (if (wrap64 (a1 - (a0_0.size : Int))) < 0 then (some (-1)) else ((laws_szExpr.f k a0_5 a0_6 a0_7 l0_8 (wrap64 (a1 - (a0_0.size : Int)))).bind fun t823 => (if t823 < 0 then (some (-1)) else (some t823)))) = some r := h
 clear h
 by_cases c3 : (wrap64 (a1 - (a0_0.size : Int))) < 0
 ·
  rw [if_pos c3] at H
  have c3b0 : decide ((wrap64 (a1 - (a0_0.size : Int))) < 0) = true := decide_eq_true c3
  clear c3
  obtain rfl := Option.some.inj H
  go_enter Try.func72, Try.ntmps72
  go_wp2_with (first | ((with_reducible refine gate_dst (N := 2) rfl ?_); refine box_event ?hg (N := 2) ?hd (cs := #[.string a0_0, .bool a0_1, .int .i64 a0_2, .int .i64 a0_3, .int .i64 a0_4, .int .i64 a0_5, .int .i64 a0_6, .string a0_7, .slice A0_8 l0_8.length c0_8]) (t := 101) ?hr ?_; (case hd => rfl); (case hg => rfl); (case hr => first | (go_simp; done) | (go_simp; rfl)); intro gb822 hg w4 hbox hb; have n0_ := Aside0.mk (below_step (by exact bw HB.out) hb); have n1_ := Aside0.mk (hbox); have n2_ := Aside0.mk ((by rw [hg]; exact (below_size (by exact bw HB.out)) : w.heap.size ≤ gb822)); have n3_ := Aside0.mk ((by rw [hg]; exact (below_size (by exact bw HB.out)) : w.heap.size ≤ gb822)); clear HB; have HB := n0_; have BK822 := n1_; have GW822 := n2_; have GE822 := n3_; clear n0_ n1_ n2_ n3_; clear hb hbox hg; have hcz5_0 : w4.cell? ⟨gb822, 0, none⟩ = some (.string a0_0) := (blk_cell BK822.out 0).trans rfl; have hcz5_1 : w4.cell? ⟨gb822, 1, none⟩ = some (.bool a0_1) := (blk_cell BK822.out 1).trans rfl; have hcz5_2 : w4.cell? ⟨gb822, 2, none⟩ = some (.int .i64 a0_2) := (blk_cell BK822.out 2).trans rfl; have hcz5_3 : w4.cell? ⟨gb822, 3, none⟩ = some (.int .i64 a0_3) := (blk_cell BK822.out 3).trans rfl; have hcz5_4 : w4.cell? ⟨gb822, 4, none⟩ = some (.int .i64 a0_4) := (blk_cell BK822.out 4).trans rfl; have hcz5_5 : w4.cell? ⟨gb822, 5, none⟩ = some (.int .i64 a0_5) := (blk_cell BK822.out 5).trans rfl; have hcz5_6 : w4.cell? ⟨gb822, 6, none⟩ = some (.int .i64 a0_6) := (blk_cell BK822.out 6).trans rfl; have hcz5_7 : w4.cell? ⟨gb822, 7, none⟩ = some (.string a0_7) := (blk_cell BK822.out 7).trans rfl; have hcz5_8 : w4.cell? ⟨gb822, 8, none⟩ = some (.slice A0_8 l0_8.length c0_8) := (blk_cell BK822.out 8).trans rfl; have hfz5_0 := blk_frozen BK822.out 0; have hfz5_1 := blk_frozen BK822.out 1; have hfz5_2 := blk_frozen BK822.out 2; have hfz5_3 := blk_frozen BK822.out 3; have hfz5_4 := blk_frozen BK822.out 4; have hfz5_5 := blk_frozen BK822.out 5; have hfz5_6 := blk_frozen BK822.out 6; have hfz5_7 := blk_frozen BK822.out 7; have hfz5_8 := blk_frozen BK822.out 8))
  go_ret
  exact ⟨by first | rfl | (simp [errW_none, errW_some] <;> rfl) | (simp [*, errW_none, errW_some] <;> rfl), by exact bw HB.out⟩
 ·
  rw [if_neg c3] at H
  have c3b0 : decide ((wrap64 (a1 - (a0_0.size : Int))) < 0) = false := decide_eq_false c3
  clear c3
  replace H := Option.bind_eq_some_iff.mp H
  obtain ⟨t823, A60, H⟩ := H
  replace H : (if t823 < 0 then (some (-1)) else (some t823)) = some r := H
  have A6 := Aside0.mk A60
  clear A60
  by_cases c7 : t823 < 0
  ·
   rw [if_pos c7] at H
   have c7b0 : decide (t823 < 0) = true := decide_eq_true c7
   clear c7
   obtain rfl := Option.some.inj H
   go_enter Try.func72, Try.ntmps72
   go_wp2_with (first | ((with_reducible refine gate_dst (N := 2) rfl ?_); refine box_event ?hg (N := 2) ?hd (cs := #[.string a0_0, .bool a0_1, .int .i64 a0_2, .int .i64 a0_3, .int .i64 a0_4, .int .i64 a0_5, .int .i64 a0_6, .string a0_7, .slice A0_8 l0_8.length c0_8]) (t := 101) ?hr ?_; (case hd => rfl); (case hg => rfl); (case hr => first | (go_simp; done) | (go_simp; rfl)); intro gb822 hg w8 hbox hb; have n0_ := Aside0.mk (below_step (by exact bw HB.out) hb); have n1_ := Aside0.mk (hbox); have n2_ := Aside0.mk ((by rw [hg]; exact (below_size (by exact bw HB.out)) : w.heap.size ≤ gb822)); have n3_ := Aside0.mk ((by rw [hg]; exact (below_size (by exact bw HB.out)) : w.heap.size ≤ gb822)); clear HB; have HB := n0_; have BK822 := n1_; have GW822 := n2_; have GE822 := n3_; clear n0_ n1_ n2_ n3_; clear hb hbox hg; have hcz9_0 : w8.cell? ⟨gb822, 0, none⟩ = some (.string a0_0) := (blk_cell BK822.out 0).trans rfl; have hcz9_1 : w8.cell? ⟨gb822, 1, none⟩ = some (.bool a0_1) := (blk_cell BK822.out 1).trans rfl; have hcz9_2 : w8.cell? ⟨gb822, 2, none⟩ = some (.int .i64 a0_2) := (blk_cell BK822.out 2).trans rfl; have hcz9_3 : w8.cell? ⟨gb822, 3, none⟩ = some (.int .i64 a0_3) := (blk_cell BK822.out 3).trans rfl; have hcz9_4 : w8.cell? ⟨gb822, 4, none⟩ = some (.int .i64 a0_4) := (blk_cell BK822.out 4).trans rfl; have hcz9_5 : w8.cell? ⟨gb822, 5, none⟩ = some (.int .i64 a0_5) := (blk_cell BK822.out 5).trans rfl; have hcz9_6 : w8.cell? ⟨gb822, 6, none⟩ = some (.int .i64 a0_6) := (blk_cell BK822.out 6).trans rfl; have hcz9_7 : w8.cell? ⟨gb822, 7, none⟩ = some (.string a0_7) := (blk_cell BK822.out 7).trans rfl; have hcz9_8 : w8.cell? ⟨gb822, 8, none⟩ = some (.slice A0_8 l0_8.length c0_8) := (blk_cell BK822.out 8).trans rfl; have hfz9_0 := blk_frozen BK822.out 0; have hfz9_1 := blk_frozen BK822.out 1; have hfz9_2 := blk_frozen BK822.out 2; have hfz9_3 := blk_frozen BK822.out 3; have hfz9_4 := blk_frozen BK822.out 4; have hfz9_5 := blk_frozen BK822.out 5; have hfz9_6 := blk_frozen BK822.out 6; have hfz9_7 := blk_frozen BK822.out 7; have hfz9_8 := blk_frozen BK822.out 8) | ((with_reducible refine gate_callee (f := 97) rfl ?_); refine gl (some 15) Try.func97 #[.agg #[.int .i64 a0_5, .int .i64 a0_6, .string a0_7, .slice A0_8 l0_8.length c0_8], .int .i64 (wrap64 (a1 - (a0_0.size : Int)))] ?_; (with_reducible refine (laws_szExpr.calls k a0_5 a0_6 a0_7 _ _ l0_8 (wrap64 (a1 - (a0_0.size : Int))) t823 _ ?side1 ?side2 A6.out).mono ?_); (case side1 => repeat (first | exact (Kd.C_below HR0_8.out HB.out) | (with_reducible refine Kd.C_alloc ?_ _) | (with_reducible refine Kd.C_drewN ?_ _) | (with_reducible refine Kd.C_drew ?_))); (case side2 => exact HC0_8.out); rintro e w10 ⟨rfl, hb⟩; refine ⟨_, rfl, ?_⟩; have n0_ := Aside0.mk (blk_below (g := gb822) (o := .cells #[.string a0_0, .bool a0_1, .int .i64 a0_2, .int .i64 a0_3, .int .i64 a0_4, .int .i64 a0_5, .int .i64 a0_6, .string a0_7, .slice A0_8 l0_8.length c0_8] 101 (0, 0)) (by exact bk BK822.out) hb); have n1_ := Aside0.mk (below_step (by exact bw HB.out) hb); clear BK822; clear HB; have BK822 := n0_; have HB := n1_; clear n0_ n1_; (try clear hb); (try clear hb2); (try clear hk); (try clear hi)))
   go_ret
   exact ⟨by first | rfl | (simp [errW_none, errW_some] <;> rfl) | (simp [*, errW_none, errW_some] <;> rfl), by exact bw HB.out⟩
  ·
   rw [if_neg c7] at H
   have c7b0 : decide (t823 < 0) = false := decide_eq_false c7
   clear c7
   obtain rfl := Option.some.inj H
   go_enter Try.func72, Try.ntmps72
   go_wp2_with (first | ((with_reducible refine gate_dst (N := 2) rfl ?_); refine box_event ?hg (N := 2) ?hd (cs := #[.string a0_0, .bool a0_1, .int .i64 a0_2, .int .i64 a0_3, .int .i64 a0_4, .int .i64 a0_5, .int .i64 a0_6, .string a0_7, .slice A0_8 l0_8.length c0_8]) (t := 101) ?hr ?_; (case hd => rfl); (case hg => rfl); (case hr => first | (go_simp; done) | (go_simp; rfl)); intro gb822 hg w11 hbox hb; have n0_ := Aside0.mk (below_step (by exact bw HB.out) hb); have n1_ := Aside0.mk (hbox); have n2_ := Aside0.mk ((by rw [hg]; exact (below_size (by exact bw HB.out)) : w.heap.size ≤ gb822)); have n3_ := Aside0.mk ((by rw [hg]; exact (below_size (by exact bw HB.out)) : w.heap.size ≤ gb822)); clear HB; have HB := n0_; have BK822 := n1_; have GW822 := n2_; have GE822 := n3_; clear n0_ n1_ n2_ n3_; clear hb hbox hg; have hcz12_0 : w11.cell? ⟨gb822, 0, none⟩ = some (.string a0_0) := (blk_cell BK822.out 0).trans rfl; have hcz12_1 : w11.cell? ⟨gb822, 1, none⟩ = some (.bool a0_1) := (blk_cell BK822.out 1).trans rfl; have hcz12_2 : w11.cell? ⟨gb822, 2, none⟩ = some (.int .i64 a0_2) := (blk_cell BK822.out 2).trans rfl; have hcz12_3 : w11.cell? ⟨gb822, 3, none⟩ = some (.int .i64 a0_3) := (blk_cell BK822.out 3).trans rfl; have hcz12_4 : w11.cell? ⟨gb822, 4, none⟩ = some (.int .i64 a0_4) := (blk_cell BK822.out 4).trans rfl; have hcz12_5 : w11.cell? ⟨gb822, 5, none⟩ = some (.int .i64 a0_5) := (blk_cell BK822.out 5).trans rfl; have hcz12_6 : w11.cell? ⟨gb822, 6, none⟩ = some (.int .i64 a0_6) := (blk_cell BK822.out 6).trans rfl; have hcz12_7 : w11.cell? ⟨gb822, 7, none⟩ = some (.string a0_7) := (blk_cell BK822.out 7).trans rfl; have hcz12_8 : w11.cell? ⟨gb822, 8, none⟩ = some (.slice A0_8 l0_8.length c0_8) := (blk_cell BK822.out 8).trans rfl; have hfz12_0 := blk_frozen BK822.out 0; have hfz12_1 := blk_frozen BK822.out 1; have hfz12_2 := blk_frozen BK822.out 2; have hfz12_3 := blk_frozen BK822.out 3; have hfz12_4 := blk_frozen BK822.out 4; have hfz12_5 := blk_frozen BK822.out 5; have hfz12_6 := blk_frozen BK822.out 6; have hfz12_7 := blk_frozen BK822.out 7; have hfz12_8 := blk_frozen BK822.out 8) | ((with_reducible refine gate_callee (f := 97) rfl ?_); refine gl (some 15) Try.func97 #[.agg #[.int .i64 a0_5, .int .i64 a0_6, .string a0_7, .slice A0_8 l0_8.length c0_8], .int .i64 (wrap64 (a1 - (a0_0.size : Int)))] ?_; (with_reducible refine (laws_szExpr.calls k a0_5 a0_6 a0_7 _ _ l0_8 (wrap64 (a1 - (a0_0.size : Int))) t823 _ ?side1 ?side2 A6.out).mono ?_); (case side1 => repeat (first | exact (Kd.C_below HR0_8.out HB.out) | (with_reducible refine Kd.C_alloc ?_ _) | (with_reducible refine Kd.C_drewN ?_ _) | (with_reducible refine Kd.C_drew ?_))); (case side2 => exact HC0_8.out); rintro e w13 ⟨rfl, hb⟩; refine ⟨_, rfl, ?_⟩; have n0_ := Aside0.mk (blk_below (g := gb822) (o := .cells #[.string a0_0, .bool a0_1, .int .i64 a0_2, .int .i64 a0_3, .int .i64 a0_4, .int .i64 a0_5, .int .i64 a0_6, .string a0_7, .slice A0_8 l0_8.length c0_8] 101 (0, 0)) (by exact bk BK822.out) hb); have n1_ := Aside0.mk (below_step (by exact bw HB.out) hb); clear BK822; clear HB; have BK822 := n0_; have HB := n1_; clear n0_ n1_; (try clear hb); (try clear hb2); (try clear hk); (try clear hi)))
   go_ret
   exact ⟨by first | rfl | (simp [errW_none, errW_some] <;> rfl) | (simp [*, errW_none, errW_some] <;> rfl), by exact bw HB.out⟩

end Go.Proofs.Ytongmkdapcgmfaa.P
