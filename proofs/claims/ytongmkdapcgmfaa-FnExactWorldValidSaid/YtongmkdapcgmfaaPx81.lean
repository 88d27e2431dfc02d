-- Written by a program of this session (wip/tool).
import Derived.Test.YtongmkdapcgmfaaPx0
namespace Go.Proofs.Ytongmkdapcgmfaa.P
open Go.RowKit Go.Proofs.YtongmkdapcgmfaaW.PrintWords Go.Proofs.YtongmkdapcgmfaaW.PrintLast Go.Proofs.YtongmkdapcgmfaaW.PrintMore
attribute [local go_sem] max2_int min2_int max_two min_two max_three min_three max_four min_four   -- for this text's walks alone
set_option linter.unusedVariables false
set_option linter.unusedSimpArgs false

/-! ### laws_eqValue: function 109 -/
def laws_eqValue.f (a0_0 : Int) (a0_1 : Int) (a1_0 : Int) (a1_1 : Int) : Option (Bool) := if a0_0 = a1_0 then (if a0_1 = a1_1 then (some true) else (some false)) else (some false)
set_option maxHeartbeats 8000000 in
set_option maxRecDepth 100000 in
theorem laws_eqValue.calls (a0_0 : Int) (a0_1 : Int) (a1_0 : Int) (a1_1 : Int) (r : Bool) (w : World) (h : laws_eqValue.f a0_0 a0_1 a1_0 a1_1 = some r) :
  Calls Try.prog 109 #[.agg #[.int .i64 a0_0, .int .i64 a0_1], .agg #[.int .i64 a1_0, .int .i64 a1_1]] w fun e w' => e = .returned (.bool r) ∧ Below w.heap.size w w' := by
 have hu78 := Try.underlying78
 have HB := Aside0.mk (Below.refl w.heap.size w)
 have H : (if a0_0 = a1_0 then (if a0_1 = a1_1 then (some true) else (some false)) else (some false)) = some r := h
 clear h
 by_cases c3 : a0_0 = a1_0
 ·
  rw [if_pos c3] at H
  have c3b0 : (a0_0 == a1_0) = true := beq_iff_eq.mpr c3
  have c3b1 : (a0_0 != a1_0) = false := bne_eq_false_iff_eq.mpr c3
  clear c3
  by_cases c4 : a0_1 = a1_1
  ·
   rw [if_pos c4] at H
   have c4b0 : (a0_1 == a1_1) = true := beq_iff_eq.mpr c4
   have c4b1 : (a0_1 != a1_1) = false := bne_eq_false_iff_eq.mpr c4
   clear c4
   obtain rfl := Option.some.inj H
   go_enter Try.func109, Try.ntmps109
   go_wp2_with (first | ((with_reducible refine gate_dst (N := 2) rfl ?_); refine box_event ?hg (N := 2) ?hd (cs := #[.int .i64 a0_0, .int .i64 a0_1]) (t := 78) ?hr ?_; (case hd => rfl); (case hg => rfl); (case hr => first | (go_simp; done) | (go_simp; rfl)); intro gb771 hg w5 hbox hb; have n0_ := Aside0.mk (below_step (by exact bw HB.out) hb); have n1_ := Aside0.mk (hbox); have n2_ := Aside0.mk ((by rw [hg]; exact (below_size (by exact bw HB.out)) : w.heap.size ≤ gb771)); have n3_ := Aside0.mk ((by rw [hg]; exact (below_size (by exact bw HB.out)) : w.heap.size ≤ gb771)); clear HB; have HB := n0_; have BK771 := n1_; have GW771 := n2_; have GE771 := n3_; clear n0_ n1_ n2_ n3_; clear hb hbox hg) | ((with_reducible refine gate_dst (N := 3) rfl ?_); refine box_event ?hg (N := 3) ?hd (cs := #[.int .i64 a1_0, .int .i64 a1_1]) (t := 78) ?hr ?_; (case hd => rfl); (case hg => rfl); (case hr => first | (go_simp; done) | (go_simp; rfl)); intro gb772 hg w6 hbox hb; have n0_ := Aside0.mk (blk_below (g := gb771) (o := .cells #[.int .i64 a0_0, .int .i64 a0_1] 78 (0, 0)) (by exact bk BK771.out) hb); have n1_ := Aside0.mk (below_step (by exact bw HB.out) hb); have n2_ := Aside0.mk (hbox); have n3_ := Aside0.mk ((by rw [hg]; exact (below_size (by exact bw HB.out)) : w.heap.size ≤ gb772)); have n4_ := Aside0.mk ((by rw [hg]; exact (below_size (by exact bw HB.out)) : w.heap.size ≤ gb772)); have n5_ := Aside0.mk ((by rw [hg]; exact Nat.ne_of_lt (blk_lt (g := gb771) (o := .cells #[.int .i64 a0_0, .int .i64 a0_1] 78 (0, 0)) (by exact bk BK771.out)) : gb771 ≠ gb772)); have n6_ := Aside0.mk ((by rw [hg]; exact Nat.ne_of_gt (blk_lt (g := gb771) (o := .cells #[.int .i64 a0_0, .int .i64 a0_1] 78 (0, 0)) (by exact bk BK771.out)) : gb772 ≠ gb771)); clear BK771; clear HB; have BK771 := n0_; have HB := n1_; have BK772 := n2_; have GW772 := n3_; have GE772 := n4_; have NB771_772 := n5_; have NB772_771 := n6_; clear n0_ n1_ n2_ n3_ n4_ n5_ n6_; clear hb hbox hg; have hnb7 := NB771_772.out; have hnc7 := NB772_771.out; have hcz8_0 : w6.cell? ⟨gb771, 0, none⟩ = some (.int .i64 a0_0) := (blk_cell BK771.out 0).trans rfl; have hcz8_1 : w6.cell? ⟨gb771, 1, none⟩ = some (.int .i64 a0_1) := (blk_cell BK771.out 1).trans rfl; have hfz8_0 := blk_frozen BK771.out 0; have hfz8_1 := blk_frozen BK771.out 1; have hcz9_0 : w6.cell? ⟨gb772, 0, none⟩ = some (.int .i64 a1_0) := (blk_cell BK772.out 0).trans rfl; have hcz9_1 : w6.cell? ⟨gb772, 1, none⟩ = some (.int .i64 a1_1) := (blk_cell BK772.out 1).trans rfl; have hfz9_0 := blk_frozen BK772.out 0; have hfz9_1 := blk_frozen BK772.out 1))
   go_ret
   exact ⟨by first | rfl | (simp [errW_none, errW_some] <;> rfl) | (simp [*, errW_none, errW_some] <;> rfl), by exact bw HB.out⟩
  ·
   rw [if_neg c4] at H
   have c4b0 : (a0_1 == a1_1) = false := beq_eq_false_iff_ne.mpr c4
   have c4b1 : (a0_1 != a1_1) = true := bne_iff_ne.mpr c4
   obtain rfl := Option.some.inj H
   go_enter Try.func109, Try.ntmps109
   go_wp2_with (first | ((with_reducible refine gate_dst (N := 2) rfl ?_); refine box_event ?hg (N := 2) ?hd (cs := #[.int .i64 a0_0, .int .i64 a0_1]) (t := 78) ?hr ?_; (case hd => rfl); (case hg => rfl); (case hr => first | (go_simp; done) | (go_simp; rfl)); intro gb771 hg w10 hbox hb; have n0_ := Aside0.mk (below_step (by exact bw HB.out) hb); have n1_ := Aside0.mk (hbox); have n2_ := Aside0.mk ((by rw [hg]; exact (below_size (by exact bw HB.out)) : w.heap.size ≤ gb771)); have n3_ := Aside0.mk ((by rw [hg]; exact (below_size (by exact bw HB.out)) : w.heap.size ≤ gb771)); clear HB; have HB := n0_; have BK771 := n1_; have GW771 := n2_; have GE771 := n3_; clear n0_ n1_ n2_ n3_; clear hb hbox hg) | ((with_reducible refine gate_dst (N := 3) rfl ?_); refine box_event ?hg (N := 3) ?hd (cs := #[.int .i64 a1_0, .int .i64 a1_1]) (t := 78) ?hr ?_; (case hd => rfl); (case hg => rfl); (case hr => first | (go_simp; done) | (go_simp; rfl)); intro gb772 hg w11 hbox hb; have n0_ := Aside0.mk (blk_below (g := gb771) (o := .cells #[.int .i64 a0_0, .int .i64 a0_1] 78 (0, 0)) (by exact bk BK771.out) hb); have n1_ := Aside0.mk (below_step (by exact bw HB.out) hb); have n2_ := Aside0.mk (hbox); have n3_ := Aside0.mk ((by rw [hg]; exact (below_size (by exact bw HB.out)) : w.heap.size ≤ gb772)); have n4_ := Aside0.mk ((by rw [hg]; exact (below_size (by exact bw HB.out)) : w.heap.size ≤ gb772)); have n5_ := Aside0.mk ((by rw [hg]; exact Nat.ne_of_lt (blk_lt (g := gb771) (o := .cells #[.int .i64 a0_0, .int .i64 a0_1] 78 (0, 0)) (by exact bk BK771.out)) : gb771 ≠ gb772)); have n6_ := Aside0.mk ((by rw [hg]; exact Nat.ne_of_gt (blk_lt (g := gb771) (o := .cells #[.int .i64 a0_0, .int .i64 a0_1] 78 (0, 0)) (by exact bk BK771.out)) : gb772 ≠ gb771)); clear BK771; clear HB; have BK771 := n0_; have HB := n1_; have BK772 := n2_; have GW772 := n3_; have GE772 := n4_; have NB771_772 := n5_; have NB772_771 := n6_; clear n0_ n1_ n2_ n3_ n4_ n5_ n6_; clear hb hbox hg; have hnb12 := NB771_772.out; have hnc12 := NB772_771.out; have hcz13_0 : w11.cell? ⟨gb771, 0, none⟩ = some (.int .i64 a0_0) := (blk_cell BK771.out 0).trans rfl; have hcz13_1 : w11.cell? ⟨gb771, 1, none⟩ = some (.int .i64 a0_1) := (blk_cell BK771.out 1).trans rfl; have hfz13_0 := blk_frozen BK771.out 0; have hfz13_1 := blk_frozen BK771.out 1; have hcz14_0 : w11.cell? ⟨gb772, 0, none⟩ = some (.int .i64 a1_0) := (blk_cell BK772.out 0).trans rfl; have hcz14_1 : w11.cell? ⟨gb772, 1, none⟩ = some (.int .i64 a1_1) := (blk_cell BK772.out 1).trans rfl; have hfz14_0 := blk_frozen BK772.out 0; have hfz14_1 := blk_frozen BK772.out 1))
   go_ret
   exact ⟨by first | rfl | (simp [errW_none, errW_some] <;> rfl) | (simp [*, errW_none, errW_some] <;> rfl), by exact bw HB.out⟩
 ·
  rw [if_neg c3] at H
  have c3b0 : (a0_0 == a1_0) = false := beq_eq_false_iff_ne.mpr c3
  have c3b1 : (a0_0 != a1_0) = true := bne_iff_ne.mpr c3
  obtain rfl := Option.some.inj H
  go_enter Try.func109, Try.ntmps109
  go_wp2_with (first | ((with_reducible refine gate_dst (N := 2) rfl ?_); refine box_event ?hg (N := 2) ?hd (cs := #[.int .i64 a0_0, .int .i64 a0_1]) (t := 78) ?hr ?_; (case hd => rfl); (case hg => rfl); (case hr => first | (go_simp; done) | (go_simp; rfl)); intro gb771 hg w15 hbox hb; have n0_ := Aside0.mk (below_step (by exact bw HB.out) hb); have n1_ := Aside0.mk (hbox); have n2_ := Aside0.mk ((by rw [hg]; exact (below_size (by exact bw HB.out)) : w.heap.size ≤ gb771)); have n3_ := Aside0.mk ((by rw [hg]; exact (below_size (by exact bw HB.out)) : w.heap.size ≤ gb771)); clear HB; have HB := n0_; have BK771 := n1_; have GW771 := n2_; have GE771 := n3_; clear n0_ n1_ n2_ n3_; clear hb hbox hg) | ((with_reducible refine gate_dst (N := 3) rfl ?_); refine box_event ?hg (N := 3) ?hd (cs := #[.int .i64 a1_0, .int .i64 a1_1]) (t := 78) ?hr ?_; (case hd => rfl); (case hg => rfl); (case hr => first | (go_simp; done) | (go_simp; rfl)); intro gb772 hg w16 hbox hb; have n0_ := Aside0.mk (blk_below (g := gb771) (o := .cells #[.int .i64 a0_0, .int .i64 a0_1] 78 (0, 0)) (by exact bk BK771.out) hb); have n1_ := Aside0.mk (below_step (by exact bw HB.out) hb); have n2_ := Aside0.mk (hbox); have n3_ := Aside0.mk ((by rw [hg]; exact (below_size (by exact bw HB.out)) : w.heap.size ≤ gb772)); have n4_ := Aside0.mk ((by rw [hg]; exact (below_size (by exact bw HB.out)) : w.heap.size ≤ gb772)); have n5_ := Aside0.mk ((by rw [hg]; exact Nat.ne_of_lt (blk_lt (g := gb771) (o := .cells #[.int .i64 a0_0, .int .i64 a0_1] 78 (0, 0)) (by exact bk BK771.out)) : gb771 ≠ gb772)); have n6_ := Aside0.mk ((by rw [hg]; exact Nat.ne_of_gt (blk_lt (g := gb771) (o := .cells #[.int .i64 a0_0, .int .i64 a0_1] 78 (0, 0)) (by exact bk BK771.out)) : gb772 ≠ gb771)); clear BK771; clear HB; have BK771 := n0_; have HB := n1_; have BK772 := n2_; have GW772 := n3_; have GE772 := n4_; have NB771_772 := n5_; have NB772_771 := n6_; clear n0_ n1_ n2_ n3_ n4_ n5_ n6_; clear hb hbox hg; have hnb17 := NB771_772.out; have hnc17 := NB772_771.out; have hcz18_0 : w16.cell? ⟨gb771, 0, none⟩ = some (.int .i64 a0_0) := (blk_cell BK771.out 0).trans rfl; have hcz18_1 : w16.cell? ⟨gb771, 1, none⟩ = some (.int .i64 a0_1) := (blk_cell BK771.out 1).trans rfl; have hfz18_0 := blk_frozen BK771.out 0; have hfz18_1 := blk_frozen BK771.out 1; have hcz19_0 : w16.cell? ⟨gb772, 0, none⟩ = some (.int .i64 a1_0) := (blk_cell BK772.out 0).trans rfl; have hcz19_1 : w16.cell? ⟨gb772, 1, none⟩ = some (.int .i64 a1_1) := (blk_cell BK772.out 1).trans rfl; have hfz19_0 := blk_frozen BK772.out 0; have hfz19_1 := blk_frozen BK772.out 1))
  go_ret
  exact ⟨by first | rfl | (simp [errW_none, errW_some] <;> rfl) | (simp [*, errW_none, errW_some] <;> rfl), by exact bw HB.out⟩

end Go.Proofs.Ytongmkdapcgmfaa.P
