-- Written by a program of this session (wip/tool).
import Derived.Test.YtefgbocbhohkeaaPx0
namespace Go.Proofs.Ytefgbocbhohkeaa.P
open Go.RowKit Go.Proofs.YtefgbocbhohkeaaW.PrintWords Go.Proofs.YtefgbocbhohkeaaW.PrintLast Go.Proofs.YtefgbocbhohkeaaW.PrintMore
attribute [local go_sem] max2_int min2_int max_two min_two max_three min_three max_four min_four   -- for this text's walks alone
set_option linter.unusedVariables false
set_option linter.unusedSimpArgs false

/-! ### spec_SameExpr: function 33 -/
mutual
def spec_SameExpr.j0 : Nat → Bool → Int → Int → ByteArray → List (S54) → Int → Int → ByteArray → List (S54) → Option (Bool)
 | 0, _, _, _, _, _, _, _, _, _ => none
 | k + 1, x33, x331000, x331001, x331002, x331003, x332000, x332001, x332002, x332003 => if x33 = true then (some false) else (spec_SameExpr.l0 k 0 x331000 x331001 x331002 x331003 x332000 x332001 x332002 x332003)
def spec_SameExpr.l0 : Nat → Int → Int → Int → ByteArray → List (S54) → Int → Int → ByteArray → List (S54) → Option (Bool)
 | 0, _, _, _, _, _, _, _, _, _ => none
 | k + 1, x5, x331000, x331001, x331002, x331003, x332000, x332001, x332002, x332003 => if x5 < (x331003.length : Int) then (if 0 ≤ x5 then (if x5 < (x332003.length : Int) then ((spec_SameExpr.f k ((rd_T54 x331003 x5).f0) ((rd_T54 x331003 x5).f1) ((rd_T54 x331003 x5).f2) ((rd_T54 x331003 x5).f3) ((rd_T54 x332003 x5).f0) ((rd_T54 x332003 x5).f1) ((rd_T54 x332003 x5).f2) ((rd_T54 x332003 x5).f3)).bind fun t334 => (if t334 = true then (spec_SameExpr.l0 k (wrap64 (x5 + 1)) x331000 x331001 x331002 x331003 x332000 x332001 x332002 x332003) else (some false))) else (none)) else (none)) else (some true)
def spec_SameExpr.f : Nat → Int → Int → ByteArray → List (S54) → Int → Int → ByteArray → List (S54) → Option (Bool)
 | 0, _, _, _, _, _, _, _, _ => none
 | k + 1, a0_0, a0_1, a0_2, l0_3, a1_0, a1_1, a1_2, l1_3 => if a0_0 = a1_0 then (if a0_1 = a1_1 then (if a0_2.toList = a1_2.toList then (spec_SameExpr.j0 k ((l0_3.length : Int) != (l1_3.length : Int)) a0_0 a0_1 a0_2 l0_3 a1_0 a1_1 a1_2 l1_3) else (spec_SameExpr.j0 k true a0_0 a0_1 a0_2 l0_3 a1_0 a1_1 a1_2 l1_3)) else (spec_SameExpr.j0 k true a0_0 a0_1 a0_2 l0_3 a1_0 a1_1 a1_2 l1_3)) else (spec_SameExpr.j0 k true a0_0 a0_1 a0_2 l0_3 a1_0 a1_1 a1_2 l1_3)
end
theorem spec_SameExpr.mono_l : ∀ k, (∀ y0 y1 y2 y3 y4 y5 y6 y7, LeO (spec_SameExpr.f k y0 y1 y2 y3 y4 y5 y6 y7) (spec_SameExpr.f (k + 1) y0 y1 y2 y3 y4 y5 y6 y7)) ∧ (∀ y0 y1 y2 y3 y4 y5 y6 y7 y8, LeO (spec_SameExpr.j0 k y0 y1 y2 y3 y4 y5 y6 y7 y8) (spec_SameExpr.j0 (k + 1) y0 y1 y2 y3 y4 y5 y6 y7 y8)) ∧ (∀ y0 y1 y2 y3 y4 y5 y6 y7 y8, LeO (spec_SameExpr.l0 k y0 y1 y2 y3 y4 y5 y6 y7 y8) (spec_SameExpr.l0 (k + 1) y0 y1 y2 y3 y4 y5 y6 y7 y8))
 | 0 => ⟨fun _ _ _ _ _ _ _ _ r h => by simp [spec_SameExpr.f] at h, fun _ _ _ _ _ _ _ _ _ r h => by simp [spec_SameExpr.j0] at h, fun _ _ _ _ _ _ _ _ _ r h => by simp [spec_SameExpr.l0] at h⟩
 | k + 1 => by
  obtain ⟨ih0, ih1, ih2⟩ := spec_SameExpr.mono_l k
  refine ⟨?_, ?_, ?_⟩
  ·
   intro y0 y1 y2 y3 y4 y5 y6 y7
   unfold spec_SameExpr.f
   repeat' first
   | (with_reducible exact ih0 _ _ _ _ _ _ _ _)
   | (with_reducible exact ih1 _ _ _ _ _ _ _ _ _)
   | (with_reducible exact ih2 _ _ _ _ _ _ _ _ _)
   | (with_reducible exact LeO.refl _)
   | (with_reducible exact LeO.none _)
   | (with_reducible refine LeO.ite ?_ ?_)
   | (with_reducible refine LeO.bind ?_ (fun _ => ?_))
   | exact ih0 _ _ _ _ _ _ _ _
   | exact ih1 _ _ _ _ _ _ _ _ _
   | exact ih2 _ _ _ _ _ _ _ _ _
   | exact LeO.none _
   | refine LeO.ite ?_ ?_
   | refine LeO.bind ?_ (fun _ => ?_)
  ·
   intro y0 y1 y2 y3 y4 y5 y6 y7 y8
   unfold spec_SameExpr.j0
   repeat' first
   | (with_reducible exact ih0 _ _ _ _ _ _ _ _)
   | (with_reducible exact ih1 _ _ _ _ _ _ _ _ _)
   | (with_reducible exact ih2 _ _ _ _ _ _ _ _ _)
   | (with_reducible exact LeO.refl _)
   | (with_reducible exact LeO.none _)
   | (with_reducible refine LeO.ite ?_ ?_)
   | (with_reducible refine LeO.bind ?_ (fun _ => ?_))
   | exact ih0 _ _ _ _ _ _ _ _
   | exact ih1 _ _ _ _ _ _ _ _ _
   | exact ih2 _ _ _ _ _ _ _ _ _
   | exact LeO.none _
   | refine LeO.ite ?_ ?_
   | refine LeO.bind ?_ (fun _ => ?_)
  ·
   intro y0 y1 y2 y3 y4 y5 y6 y7 y8
   unfold spec_SameExpr.l0
   repeat' first
   | (with_reducible exact ih0 _ _ _ _ _ _ _ _)
   | (with_reducible exact ih1 _ _ _ _ _ _ _ _ _)
   | (with_reducible exact ih2 _ _ _ _ _ _ _ _ _)
   | (with_reducible exact LeO.refl _)
   | (with_reducible exact LeO.none _)
   | (with_reducible refine LeO.ite ?_ ?_)
   | (with_reducible refine LeO.bind ?_ (fun _ => ?_))
   | exact ih0 _ _ _ _ _ _ _ _
   | exact ih1 _ _ _ _ _ _ _ _ _
   | exact ih2 _ _ _ _ _ _ _ _ _
   | exact LeO.none _
   | refine LeO.ite ?_ ?_
   | refine LeO.bind ?_ (fun _ => ?_)
theorem spec_SameExpr.mono : ∀ a0 a1 a2 a3 a4 a5 a6 a7 k, LeO (spec_SameExpr.f k a0 a1 a2 a3 a4 a5 a6 a7) (spec_SameExpr.f (k + 1) a0 a1 a2 a3 a4 a5 a6 a7) := by
 intro a0 a1 a2 a3 a4 a5 a6 a7 k
 obtain ⟨ih0, ih1, ih2⟩ := spec_SameExpr.mono_l k
 exact ih0 a0 a1 a2 a3 a4 a5 a6 a7
def spec_SameExpr.T6 : Bool × List (List Nat × List Nat) := (true, [([], []), ([0], [0]), ([], []), ([1, 2], [1, 2]), ([3], [3]), ([], []), ([5], [5]), ([], []), ([6, 7], [6, 7]), ([8], [8]), ([4, 9], [4, 9]), ([10], [10])])
def spec_SameExpr.B6 : List Nat := [0, 1, 0, 7, 15, 0, 32, 0, 224, 480, 1023, 2047]
theorem spec_SameExpr.tab6 : rtab .any (opsOf Try.f33 6) = spec_SameExpr.T6 := by kernel_rfl
theorem spec_SameExpr.bits6 : waitsOk spec_SameExpr.T6.2 spec_SameExpr.B6 = true := by kernel_rfl
abbrev spec_SameExpr.m0 : Array Bool := #[false, false, false, false, false, false, false, false, false, false, false, false]
abbrev spec_SameExpr.m1 : Array Bool := #[true, false, false, false, false, false, false, false, false, false, false, false]
abbrev spec_SameExpr.m2 : Array Bool := #[true, false, true, false, false, false, false, false, false, false, false, false]
abbrev spec_SameExpr.m3 : Array Bool := #[true, false, true, false, false, true, false, false, false, false, false, false]
abbrev spec_SameExpr.m4 : Array Bool := #[true, false, true, false, false, true, false, true, false, false, false, false]
abbrev spec_SameExpr.m5 : Array Bool := #[true, true, true, false, false, true, false, true, false, false, false, false]
abbrev spec_SameExpr.m6 : Array Bool := #[true, true, true, true, false, true, false, true, false, false, false, false]
abbrev spec_SameExpr.m7 : Array Bool := #[true, true, true, true, true, true, false, true, false, false, false, false]
abbrev spec_SameExpr.m8 : Array Bool := #[true, true, true, true, true, true, true, true, false, false, false, false]
abbrev spec_SameExpr.m9 : Array Bool := #[true, true, true, true, true, true, true, true, true, false, false, false]
abbrev spec_SameExpr.m10 : Array Bool := #[true, true, true, true, true, true, true, true, true, true, false, false]
abbrev spec_SameExpr.m11 : Array Bool := #[true, true, true, true, true, true, true, true, true, true, true, false]
abbrev spec_SameExpr.m12 : Array Bool := #[true, true, true, true, true, true, true, true, true, true, true, true]
set_option maxHeartbeats 8000000 in
set_option maxRecDepth 100000 in
theorem spec_SameExpr.calls (k : Nat) : ∀ (a0_0 : Int) (a0_1 : Int) (a0_2 : ByteArray) (A0_3 : Option Addr) (c0_3 : Nat) (l0_3 : List (S54)) (a1_0 : Int) (a1_1 : Int) (a1_2 : ByteArray) (A1_3 : Option Addr) (c1_3 : Nat) (l1_3 : List (S54)) (r : Bool) (w : World) (hr0_3 : Kd.C k54 w A0_3 l0_3.length l0_3) (hc0_3 : l0_3.length ≤ c0_3) (hr1_3 : Kd.C k54 w A1_3 l1_3.length l1_3) (hc1_3 : l1_3.length ≤ c1_3) (h : spec_SameExpr.f k a0_0 a0_1 a0_2 l0_3 a1_0 a1_1 a1_2 l1_3 = some r),
  Calls Try.prog 33 #[.agg #[.int .i64 a0_0, .int .i64 a0_1, .string a0_2, .slice A0_3 l0_3.length c0_3], .agg #[.int .i64 a1_0, .int .i64 a1_1, .string a1_2, .slice A1_3 l1_3.length c1_3]] w fun e w' => e = .returned (.bool r) ∧ Below w.heap.size w w' := by
 induction k using Nat.strongRecOn with
 | _ k ih =>
 intro a0_0 a0_1 a0_2 A0_3 c0_3 l0_3 a1_0 a1_1 a1_2 A1_3 c1_3 l1_3 r w hr0_3 hc0_3 hr1_3 hc1_3 h
 cases k with
 | zero => exact absurd h (by simp [spec_SameExpr.f])
 | succ k =>
 simp only [spec_SameExpr.f] at h
 have hu54 := Try.underlying54
 have HR0_3 := Aside0.mk hr0_3
 have HC0_3 := Aside0.mk hc0_3
 clear hr0_3 hc0_3
 have HR1_3 := Aside0.mk hr1_3
 have HC1_3 := Aside0.mk hc1_3
 clear hr1_3 hc1_3
 have HB := Aside0.mk (Below.refl w.heap.size w)
 have H : (if a0_0 = a1_0 then (if a0_1 = a1_1 then (if a0_2.toList = a1_2.toList then (spec_SameExpr.j0 k ((l0_3.length : Int) != (l1_3.length : Int)) a0_0 a0_1 a0_2 l0_3 a1_0 a1_1 a1_2 l1_3) else (spec_SameExpr.j0 k true a0_0 a0_1 a0_2 l0_3 a1_0 a1_1 a1_2 l1_3)) else (spec_SameExpr.j0 k true a0_0 a0_1 a0_2 l0_3 a1_0 a1_1 a1_2 l1_3)) else (spec_SameExpr.j0 k true a0_0 a0_1 a0_2 l0_3 a1_0 a1_1 a1_2 l1_3)) = some r := h
 clear h
 have HC3 := Aside0.mk H
 clear H
 go_enter Try.func33, Try.ntmps33
 go_upto_region 1 with (first | ((with_reducible refine gate_dst (N := 2) rfl ?_); (try (refine gate_guard (by rfl) ?_; dsimp only)); refine box_event ?hg (N := 2) ?hd (cs := #[.int .i64 a0_0, .int .i64 a0_1, .string a0_2, .slice A0_3 l0_3.length c0_3]) (t := 54) ?hr ?_; (case hd => rfl); (case hg => rfl); (case hr => first | (go_simp; done) | (go_simp; rfl)); intro gb330 hg w4 hbox hb; have n0_ := Aside0.mk (below_step (by exact bw HB.out) hb); have n1_ := Aside0.mk (hbox); have n2_ := Aside0.mk ((by rw [hg]; exact (below_size (by exact bw HB.out)) : w.heap.size ≤ gb330)); have n3_ := Aside0.mk ((by rw [hg]; exact (below_size (by exact bw HB.out)) : w.heap.size ≤ gb330)); clear HB; have HB := n0_; have BK330 := n1_; have GW330 := n2_; have GE330 := n3_; clear n0_ n1_ n2_ n3_; clear hb hbox hg) | ((with_reducible refine gate_dst (N := 3) rfl ?_); (try (refine gate_guard (by rfl) ?_; dsimp only)); refine box_event ?hg (N := 3) ?hd (cs := #[.int .i64 a1_0, .int .i64 a1_1, .string a1_2, .slice A1_3 l1_3.length c1_3]) (t := 54) ?hr ?_; (case hd => rfl); (case hg => rfl); (case hr => first | (go_simp; done) | (go_simp; rfl)); intro gb331 hg w5 hbox hb; have n0_ := Aside0.mk (blk_below (g := gb330) (o := .cells #[.int .i64 a0_0, .int .i64 a0_1, .string a0_2, .slice A0_3 l0_3.length c0_3] 54 (0, 0)) (by exact bk BK330.out) hb); have n1_ := Aside0.mk (below_step (by exact bw HB.out) hb); have n2_ := Aside0.mk (hbox); have n3_ := Aside0.mk ((by rw [hg]; exact (below_size (by exact bw HB.out)) : w.heap.size ≤ gb331)); have n4_ := Aside0.mk ((by rw [hg]; exact (below_size (by exact bw HB.out)) : w.heap.size ≤ gb331)); have n5_ := Aside0.mk ((by rw [hg]; exact Nat.ne_of_lt (blk_lt (g := gb330) (o := .cells #[.int .i64 a0_0, .int .i64 a0_1, .string a0_2, .slice A0_3 l0_3.length c0_3] 54 (0, 0)) (by exact bk BK330.out)) : gb330 ≠ gb331)); have n6_ := Aside0.mk ((by rw [hg]; exact Nat.ne_of_gt (blk_lt (g := gb330) (o := .cells #[.int .i64 a0_0, .int .i64 a0_1, .string a0_2, .slice A0_3 l0_3.length c0_3] 54 (0, 0)) (by exact bk BK330.out)) : gb331 ≠ gb330)); clear BK330; clear HB; have BK330 := n0_; have HB := n1_; have BK331 := n2_; have GW331 := n3_; have GE331 := n4_; have NB330_331 := n5_; have NB331_330 := n6_; clear n0_ n1_ n2_ n3_ n4_ n5_ n6_; clear hb hbox hg))
 (try simp only [Act.put, List.setIfInBounds_toArray, List.set_cons_zero, List.set_cons_succ])
 go_cut [33] (fun v33 wc => ∃ (kq : Nat) (x33_2 : Bool), v33 = .bool x33_2 ∧ Aside0 (spec_SameExpr.j0 kq x33_2 a0_0 a0_1 a0_2 l0_3 a1_0 a1_1 a1_2 l1_3 = some r) ∧ Aside0 (kq ≤ k) ∧ Aside0 (wc.heap[gb330]? = some (.cells #[.int .i64 a0_0, .int .i64 a0_1, .string a0_2, (.slice A0_3 l0_3.length c0_3)] 54 (0, 0))) ∧ Aside0 (wc.heap[gb331]? = some (.cells #[.int .i64 a1_0, .int .i64 a1_1, .string a1_2, (.slice A1_3 l1_3.length c1_3)] 54 (0, 0))) ∧ Aside0 (Below w.heap.size w wc))
 case first =>
  have H := HC3.out
  clear HC3
  by_cases c6 : a0_0 = a1_0
  ·
   rw [if_pos c6] at H
   have c6b0 : (a0_0 == a1_0) = true := beq_iff_eq.mpr c6
   have c6b1 : (a0_0 != a1_0) = false := bne_eq_false_iff_eq.mpr c6
   clear c6
   (first | rw [c6b0] | (simp only [i64_w, i32_w]; rw [c6b0]) | rw [c6b2] | rw [c6b1] | skip)
   by_cases c7 : a0_1 = a1_1
   ·
    rw [if_pos c7] at H
    have c7b0 : (a0_1 == a1_1) = true := beq_iff_eq.mpr c7
    have c7b1 : (a0_1 != a1_1) = false := bne_eq_false_iff_eq.mpr c7
    clear c7
    by_cases c8 : a0_2.toList = a1_2.toList
    ·
     rw [if_pos c8] at H
     have c8b0 : (a0_2.toList == a1_2.toList) = true := beq_iff_eq.mpr c8
     have c8b1 : (a0_2.toList != a1_2.toList) = false := bne_eq_false_iff_eq.mpr c8
     clear c8
     have H' := Aside0.mk H
     clear H
     have hnb9 := NB330_331.out
     have hnc9 := NB331_330.out
     have hcz10_0 : w5.cell? ⟨gb330, 0, none⟩ = some (.int .i64 a0_0) := (blk_cell BK330.out 0).trans rfl
     have hcz10_1 : w5.cell? ⟨gb330, 1, none⟩ = some (.int .i64 a0_1) := (blk_cell BK330.out 1).trans rfl
     have hcz10_2 : w5.cell? ⟨gb330, 2, none⟩ = some (.string a0_2) := (blk_cell BK330.out 2).trans rfl
     have hcz10_3 : w5.cell? ⟨gb330, 3, none⟩ = some (.slice A0_3 l0_3.length c0_3) := (blk_cell BK330.out 3).trans rfl
     have hfz10_0 := blk_frozen BK330.out 0
     have hfz10_1 := blk_frozen BK330.out 1
     have hfz10_2 := blk_frozen BK330.out 2
     have hfz10_3 := blk_frozen BK330.out 3
     have hcz11_0 : w5.cell? ⟨gb331, 0, none⟩ = some (.int .i64 a1_0) := (blk_cell BK331.out 0).trans rfl
     have hcz11_1 : w5.cell? ⟨gb331, 1, none⟩ = some (.int .i64 a1_1) := (blk_cell BK331.out 1).trans rfl
     have hcz11_2 : w5.cell? ⟨gb331, 2, none⟩ = some (.string a1_2) := (blk_cell BK331.out 2).trans rfl
     have hcz11_3 : w5.cell? ⟨gb331, 3, none⟩ = some (.slice A1_3 l1_3.length c1_3) := (blk_cell BK331.out 3).trans rfl
     have hfz11_0 := blk_frozen BK331.out 0
     have hfz11_1 := blk_frozen BK331.out 1
     have hfz11_2 := blk_frozen BK331.out 2
     have hfz11_3 := blk_frozen BK331.out 3
     go_wp2
     go_meet
     case rel => exact ⟨_, (((l0_3.length : Int) != (l1_3.length : Int))), (by first | rfl | (simp; done) | (simp [*]; done)), H', ⟨by first | omega | exact Nat.le_refl _⟩, ⟨by exact bk BK330.out⟩, ⟨by exact bk BK331.out⟩, ⟨by exact bw HB.out⟩⟩
    ·
     rw [if_neg c8] at H
     have c8b0 : (a0_2.toList == a1_2.toList) = false := beq_eq_false_iff_ne.mpr c8
     have c8b1 : (a0_2.toList != a1_2.toList) = true := bne_iff_ne.mpr c8
     have H' := Aside0.mk H
     clear H
     have hnb12 := NB330_331.out
     have hnc12 := NB331_330.out
     have hcz13_0 : w5.cell? ⟨gb330, 0, none⟩ = some (.int .i64 a0_0) := (blk_cell BK330.out 0).trans rfl
     have hcz13_1 : w5.cell? ⟨gb330, 1, none⟩ = some (.int .i64 a0_1) := (blk_cell BK330.out 1).trans rfl
     have hcz13_2 : w5.cell? ⟨gb330, 2, none⟩ = some (.string a0_2) := (blk_cell BK330.out 2).trans rfl
     have hcz13_3 : w5.cell? ⟨gb330, 3, none⟩ = some (.slice A0_3 l0_3.length c0_3) := (blk_cell BK330.out 3).trans rfl
     have hfz13_0 := blk_frozen BK330.out 0
     have hfz13_1 := blk_frozen BK330.out 1
     have hfz13_2 := blk_frozen BK330.out 2
     have hfz13_3 := blk_frozen BK330.out 3
     have hcz14_0 : w5.cell? ⟨gb331, 0, none⟩ = some (.int .i64 a1_0) := (blk_cell BK331.out 0).trans rfl
     have hcz14_1 : w5.cell? ⟨gb331, 1, none⟩ = some (.int .i64 a1_1) := (blk_cell BK331.out 1).trans rfl
     have hcz14_2 : w5.cell? ⟨gb331, 2, none⟩ = some (.string a1_2) := (blk_cell BK331.out 2).trans rfl
     have hcz14_3 : w5.cell? ⟨gb331, 3, none⟩ = some (.slice A1_3 l1_3.length c1_3) := (blk_cell BK331.out 3).trans rfl
     have hfz14_0 := blk_frozen BK331.out 0
     have hfz14_1 := blk_frozen BK331.out 1
     have hfz14_2 := blk_frozen BK331.out 2
     have hfz14_3 := blk_frozen BK331.out 3
     go_wp2
     go_meet
     case rel => exact ⟨_, (true), (by first | rfl | (simp; done) | (simp [*]; done)), H', ⟨by first | omega | exact Nat.le_refl _⟩, ⟨by exact bk BK330.out⟩, ⟨by exact bk BK331.out⟩, ⟨by exact bw HB.out⟩⟩
   ·
    rw [if_neg c7] at H
    have c7b0 : (a0_1 == a1_1) = false := beq_eq_false_iff_ne.mpr c7
    have c7b1 : (a0_1 != a1_1) = true := bne_iff_ne.mpr c7
    have H' := Aside0.mk H
    clear H
    have hnb15 := NB330_331.out
    have hnc15 := NB331_330.out
    have hcz16_0 : w5.cell? ⟨gb330, 0, none⟩ = some (.int .i64 a0_0) := (blk_cell BK330.out 0).trans rfl
    have hcz16_1 : w5.cell? ⟨gb330, 1, none⟩ = some (.int .i64 a0_1) := (blk_cell BK330.out 1).trans rfl
    have hcz16_2 : w5.cell? ⟨gb330, 2, none⟩ = some (.string a0_2) := (blk_cell BK330.out 2).trans rfl
    have hcz16_3 : w5.cell? ⟨gb330, 3, none⟩ = some (.slice A0_3 l0_3.length c0_3) := (blk_cell BK330.out 3).trans rfl
    have hfz16_0 := blk_frozen BK330.out 0
    have hfz16_1 := blk_frozen BK330.out 1
    have hfz16_2 := blk_frozen BK330.out 2
    have hfz16_3 := blk_frozen BK330.out 3
    have hcz17_0 : w5.cell? ⟨gb331, 0, none⟩ = some (.int .i64 a1_0) := (blk_cell BK331.out 0).trans rfl
    have hcz17_1 : w5.cell? ⟨gb331, 1, none⟩ = some (.int .i64 a1_1) := (blk_cell BK331.out 1).trans rfl
    have hcz17_2 : w5.cell? ⟨gb331, 2, none⟩ = some (.string a1_2) := (blk_cell BK331.out 2).trans rfl
    have hcz17_3 : w5.cell? ⟨gb331, 3, none⟩ = some (.slice A1_3 l1_3.length c1_3) := (blk_cell BK331.out 3).trans rfl
    have hfz17_0 := blk_frozen BK331.out 0
    have hfz17_1 := blk_frozen BK331.out 1
    have hfz17_2 := blk_frozen BK331.out 2
    have hfz17_3 := blk_frozen BK331.out 3
    go_wp2
    go_meet
    case rel => exact ⟨_, (true), (by first | rfl | (simp; done) | (simp [*]; done)), H', ⟨by first | omega | exact Nat.le_refl _⟩, ⟨by exact bk BK330.out⟩, ⟨by exact bk BK331.out⟩, ⟨by exact bw HB.out⟩⟩
  ·
   rw [if_neg c6] at H
   have c6b0 : (a0_0 == a1_0) = false := beq_eq_false_iff_ne.mpr c6
   have c6b1 : (a0_0 != a1_0) = true := bne_iff_ne.mpr c6
   (first | rw [c6b0] | (simp only [i64_w, i32_w]; rw [c6b0]) | rw [c6b2] | rw [c6b1] | skip)
   have H' := Aside0.mk H
   clear H
   have hnb18 := NB330_331.out
   have hnc18 := NB331_330.out
   have hcz19_0 : w5.cell? ⟨gb330, 0, none⟩ = some (.int .i64 a0_0) := (blk_cell BK330.out 0).trans rfl
   have hcz19_1 : w5.cell? ⟨gb330, 1, none⟩ = some (.int .i64 a0_1) := (blk_cell BK330.out 1).trans rfl
   have hcz19_2 : w5.cell? ⟨gb330, 2, none⟩ = some (.string a0_2) := (blk_cell BK330.out 2).trans rfl
   have hcz19_3 : w5.cell? ⟨gb330, 3, none⟩ = some (.slice A0_3 l0_3.length c0_3) := (blk_cell BK330.out 3).trans rfl
   have hfz19_0 := blk_frozen BK330.out 0
   have hfz19_1 := blk_frozen BK330.out 1
   have hfz19_2 := blk_frozen BK330.out 2
   have hfz19_3 := blk_frozen BK330.out 3
   have hcz20_0 : w5.cell? ⟨gb331, 0, none⟩ = some (.int .i64 a1_0) := (blk_cell BK331.out 0).trans rfl
   have hcz20_1 : w5.cell? ⟨gb331, 1, none⟩ = some (.int .i64 a1_1) := (blk_cell BK331.out 1).trans rfl
   have hcz20_2 : w5.cell? ⟨gb331, 2, none⟩ = some (.string a1_2) := (blk_cell BK331.out 2).trans rfl
   have hcz20_3 : w5.cell? ⟨gb331, 3, none⟩ = some (.slice A1_3 l1_3.length c1_3) := (blk_cell BK331.out 3).trans rfl
   have hfz20_0 := blk_frozen BK331.out 0
   have hfz20_1 := blk_frozen BK331.out 1
   have hfz20_2 := blk_frozen BK331.out 2
   have hfz20_3 := blk_frozen BK331.out 3
   go_wp2
   go_meet
   case rel => exact ⟨_, (true), (by first | rfl | (simp; done) | (simp [*]; done)), H', ⟨by first | omega | exact Nat.le_refl _⟩, ⟨by exact bk BK330.out⟩, ⟨by exact bk BK331.out⟩, ⟨by exact bw HB.out⟩⟩
 case rest =>
  clear HC3
  try clear c1
  try clear p2
  try clear c3
  try clear c6
  try clear c6b0
  try clear c6b1
  try clear c6b2
  try clear c7
  try clear c7b0
  try clear c7b1
  try clear c8
  try clear c8b0
  try clear c8b1
  try clear c9
  try clear c12
  try clear c15
  try clear c18
  try clear hcz10_0
  try clear hcz10_1
  try clear hcz10_2
  try clear hcz10_3
  try clear hcz11_0
  try clear hcz11_1
  try clear hcz11_2
  try clear hcz11_3
  try clear hcz13_0
  try clear hcz13_1
  try clear hcz13_2
  try clear hcz13_3
  try clear hcz14_0
  try clear hcz14_1
  try clear hcz14_2
  try clear hcz14_3
  try clear hcz16_0
  try clear hcz16_1
  try clear hcz16_2
  try clear hcz16_3
  try clear hcz17_0
  try clear hcz17_1
  try clear hcz17_2
  try clear hcz17_3
  try clear hcz19_0
  try clear hcz19_1
  try clear hcz19_2
  try clear hcz19_3
  try clear hcz20_0
  try clear hcz20_1
  try clear hcz20_2
  try clear hcz20_3
  try clear hfz10_0
  try clear hfz10_1
  try clear hfz10_2
  try clear hfz10_3
  try clear hfz11_0
  try clear hfz11_1
  try clear hfz11_2
  try clear hfz11_3
  try clear hfz13_0
  try clear hfz13_1
  try clear hfz13_2
  try clear hfz13_3
  try clear hfz14_0
  try clear hfz14_1
  try clear hfz14_2
  try clear hfz14_3
  try clear hfz16_0
  try clear hfz16_1
  try clear hfz16_2
  try clear hfz16_3
  try clear hfz17_0
  try clear hfz17_1
  try clear hfz17_2
  try clear hfz17_3
  try clear hfz19_0
  try clear hfz19_1
  try clear hfz19_2
  try clear hfz19_3
  try clear hfz20_0
  try clear hfz20_1
  try clear hfz20_2
  try clear hfz20_3
  obtain ⟨kq, x33_2, rfl, HA, HJ2, BK330, BK331, HB⟩ := hcut
  cases kq with
  | zero => exact absurd HA.out (by simp [spec_SameExpr.j0])
  | succ kj2 =>
   have H := HA.out
   clear HA
   simp only [spec_SameExpr.j0] at H
   by_cases c21 : x33_2 = true
   ·
    subst c21
    have H1 : (some false) = some r := by rw [if_pos rfl] at H; exact H
    clear H
    have H := H1
    clear H1
    obtain rfl := Option.some.inj H
    go_wp2
    go_ret
    exact ⟨by first | rfl | (simp [errW_none, errW_some] <;> rfl) | (simp [*, errW_none, errW_some] <;> rfl), by exact bw HB.out⟩
   ·
    replace c21 := Bool.eq_false_iff.mpr c21
    subst c21
    have H1 : (spec_SameExpr.l0 kj2 0 a0_0 a0_1 a0_2 l0_3 a1_0 a1_1 a1_2 l1_3) = some r := by rw [if_neg (show ¬ (false = true) by decide)] at H; exact H
    clear H
    have H := H1
    clear H1
    have H' := Aside0.mk H
    clear H
    go_wp2
    go_loopg [5] kj2 (fun kq v5 w' => ∃ (x5_2 : Int), v5 = .int .i64 x5_2 ∧ Aside0 (spec_SameExpr.l0 kq x5_2 a0_0 a0_1 a0_2 l0_3 a1_0 a1_1 a1_2 l1_3 = some r) ∧ Aside0 (kq ≤ kj2) ∧ Aside0 (w'.heap[gb330]? = some (.cells #[.int .i64 a0_0, .int .i64 a0_1, .string a0_2, (.slice A0_3 l0_3.length c0_3)] 54 (0, 0))) ∧ Aside0 (w'.heap[gb331]? = some (.cells #[.int .i64 a1_0, .int .i64 a1_1, .string a1_2, (.slice A1_3 l1_3.length c1_3)] 54 (0, 0))) ∧ Aside0 (Below w.heap.size w w'))
    case atStart => exact ⟨(0), (by first | rfl | (simp; done) | (simp [*]; done)), H', ⟨Nat.le_refl _⟩, ⟨by exact bk BK330.out⟩, ⟨by exact bk BK331.out⟩, ⟨by exact bw HB.out⟩⟩
    case round =>
     clear H'
     try clear c1
     try clear c2
     try clear p2
     try clear c3
     try clear c6
     try clear c6b0
     try clear c6b1
     try clear c6b2
     try clear c7
     try clear c7b0
     try clear c7b1
     try clear c8
     try clear c8b0
     try clear c8b1
     try clear c9
     try clear c12
     try clear c15
     try clear c18
     try clear c21
     try clear hcz10_0
     try clear hcz10_1
     try clear hcz10_2
     try clear hcz10_3
     try clear hcz11_0
     try clear hcz11_1
     try clear hcz11_2
     try clear hcz11_3
     try clear hcz13_0
     try clear hcz13_1
     try clear hcz13_2
     try clear hcz13_3
     try clear hcz14_0
     try clear hcz14_1
     try clear hcz14_2
     try clear hcz14_3
     try clear hcz16_0
     try clear hcz16_1
     try clear hcz16_2
     try clear hcz16_3
     try clear hcz17_0
     try clear hcz17_1
     try clear hcz17_2
     try clear hcz17_3
     try clear hcz19_0
     try clear hcz19_1
     try clear hcz19_2
     try clear hcz19_3
     try clear hcz20_0
     try clear hcz20_1
     try clear hcz20_2
     try clear hcz20_3
     try clear hfz10_0
     try clear hfz10_1
     try clear hfz10_2
     try clear hfz10_3
     try clear hfz11_0
     try clear hfz11_1
     try clear hfz11_2
     try clear hfz11_3
     try clear hfz13_0
     try clear hfz13_1
     try clear hfz13_2
     try clear hfz13_3
     try clear hfz14_0
     try clear hfz14_1
     try clear hfz14_2
     try clear hfz14_3
     try clear hfz16_0
     try clear hfz16_1
     try clear hfz16_2
     try clear hfz16_3
     try clear hfz17_0
     try clear hfz17_1
     try clear hfz17_2
     try clear hfz17_3
     try clear hfz19_0
     try clear hfz19_1
     try clear hfz19_2
     try clear hfz19_3
     try clear hfz20_0
     try clear hfz20_1
     try clear hfz20_2
     try clear hfz20_3
     try clear p2
     obtain ⟨x5_2, rfl, HA, HK2, BK330, BK331, HB⟩ := hrel
     cases gk with
     | zero => exact absurd HA.out (by simp [spec_SameExpr.l0])
     | succ k2 =>
      have H := HA.out
      clear HA
      simp only [spec_SameExpr.l0] at H
      by_cases c22 : x5_2 < (l0_3.length : Int)
      ·
       rw [if_pos c22] at H
       have c22b0 : decide (x5_2 < (l0_3.length : Int)) = true := decide_eq_true c22
       clear c22
       by_cases c23 : 0 ≤ x5_2
       ·
        rw [if_pos c23] at H
        have c23b0 : decide (0 ≤ x5_2) = true := decide_eq_true c23
        clear c23
        by_cases c24 : x5_2 < (l1_3.length : Int)
        ·
         rw [if_pos c24] at H
         have c24b0 : decide (x5_2 < (l1_3.length : Int)) = true := decide_eq_true c24
         clear c24
         replace H := Option.bind_eq_some_iff.mp H
         obtain ⟨t334, A250, H⟩ := H
         replace H : (if t334 = true then (spec_SameExpr.l0 k2 (wrap64 (x5_2 + 1)) a0_0 a0_1 a0_2 l0_3 a1_0 a1_1 a1_2 l1_3) else (some false)) = some r := H
         have A25 := Aside0.mk A250
         clear A250
         by_cases c26 : t334 = true
         ·
          subst c26
          have H1 : (spec_SameExpr.l0 k2 (wrap64 (x5_2 + 1)) a0_0 a0_1 a0_2 l0_3 a1_0 a1_1 a1_2 l1_3) = some r := by rw [if_pos rfl] at H; exact H
          clear H
          have H := H1
          clear H1
          have H' := Aside0.mk H
          clear H
          have hnb27 := NB330_331.out
          have hnc27 := NB331_330.out
          have hcz28_0 : wr.cell? ⟨gb330, 0, none⟩ = some (.int .i64 a0_0) := (blk_cell BK330.out 0).trans rfl
          have hcz28_1 : wr.cell? ⟨gb330, 1, none⟩ = some (.int .i64 a0_1) := (blk_cell BK330.out 1).trans rfl
          have hcz28_2 : wr.cell? ⟨gb330, 2, none⟩ = some (.string a0_2) := (blk_cell BK330.out 2).trans rfl
          have hcz28_3 : wr.cell? ⟨gb330, 3, none⟩ = some (.slice A0_3 l0_3.length c0_3) := (blk_cell BK330.out 3).trans rfl
          have hfz28_0 := blk_frozen BK330.out 0
          have hfz28_1 := blk_frozen BK330.out 1
          have hfz28_2 := blk_frozen BK330.out 2
          have hfz28_3 := blk_frozen BK330.out 3
          try go_wp2
          have n0_ := Aside0.mk (blk_drew BK330.out)
          have n1_ := Aside0.mk (blk_drew BK331.out)
          have n2_ := Aside0.mk (below_drew1 HB.out)
          clear BK330
          clear BK331
          clear HB
          have BK330 := n0_
          have BK331 := n1_
          have HB := n2_
          clear n0_ n1_ n2_
          have p332 : 0 ≤ (x5_2 : Int) := of_decide_eq_true (by first | (with_reducible assumption) | assumption)
          have q332 : x5_2 < (l0_3.length : Int) := of_decide_eq_true (by first | (with_reducible assumption) | assumption)
          obtain ⟨ad332, A332_3, c332_3, e332, hx332_0, hx332_1, hx332_2, hx332_3, hl332_3, hi332_3⟩ := at_T54 HR0_3.out x5_2 p332 q332
          have hw332_3 := hx332_3
          have hw332_2 := hx332_2
          have hw332_1 := hx332_1
          have hw332_0 := hx332_0
          cases e332
          replace hx332_0 := (HB.out.cell (World.block_lt_of_cell? w _ hx332_0)).trans hx332_0
          replace hx332_1 := (HB.out.cell (World.block_lt_of_cell? w _ hx332_1)).trans hx332_1
          replace hx332_2 := (HB.out.cell (World.block_lt_of_cell? w _ hx332_2)).trans hx332_2
          replace hx332_3 := (HB.out.cell (World.block_lt_of_cell? w _ hx332_3)).trans hx332_3
          have HR332_3 := Aside0.mk hi332_3
          have HC332_3 := Aside0.mk hl332_3
          clear hi332_3 hl332_3
          replace p332 := eq_true p332
          replace q332 := eq_true q332
          have p333 : 0 ≤ (x5_2 : Int) := of_decide_eq_true (by first | (with_reducible assumption) | assumption)
          have q333 : x5_2 < (l1_3.length : Int) := of_decide_eq_true (by first | (with_reducible assumption) | assumption)
          obtain ⟨ad333, A333_3, c333_3, e333, hx333_0, hx333_1, hx333_2, hx333_3, hl333_3, hi333_3⟩ := at_T54 HR1_3.out x5_2 p333 q333
          have hw333_3 := hx333_3
          have hw333_2 := hx333_2
          have hw333_1 := hx333_1
          have hw333_0 := hx333_0
          cases e333
          replace hx333_0 := (HB.out.cell (World.block_lt_of_cell? w _ hx333_0)).trans hx333_0
          replace hx333_1 := (HB.out.cell (World.block_lt_of_cell? w _ hx333_1)).trans hx333_1
          replace hx333_2 := (HB.out.cell (World.block_lt_of_cell? w _ hx333_2)).trans hx333_2
          replace hx333_3 := (HB.out.cell (World.block_lt_of_cell? w _ hx333_3)).trans hx333_3
          have HR333_3 := Aside0.mk hi333_3
          have HC333_3 := Aside0.mk hl333_3
          clear hi333_3 hl333_3
          replace p333 := eq_true p333
          replace q333 := eq_true q333
          refine start_ (n := 12) (S := fun w' => w'.cell? ⟨gb330, 0, none⟩ = some (.int .i64 a0_0) ∧ w'.cell? ⟨gb330, 1, none⟩ = some (.int .i64 a0_1) ∧ w'.cell? ⟨gb330, 2, none⟩ = some (.string a0_2) ∧ w'.cell? ⟨gb330, 3, none⟩ = some (.slice (some ad332) l0_3.length c0_3) ∧ w'.cell? ⟨gb331, 0, none⟩ = some (.int .i64 a1_0) ∧ w'.cell? ⟨gb331, 1, none⟩ = some (.int .i64 a1_1) ∧ w'.cell? ⟨gb331, 2, none⟩ = some (.string a1_2) ∧ w'.cell? ⟨gb331, 3, none⟩ = some (.slice (some ad333) l1_3.length c1_3) ∧ w'.cell? (ad332.add ((x5_2).toNat * 4)) = some (.int .i64 ((rd_T54 l0_3 x5_2).f0)) ∧ w'.cell? ⟨(ad332.add ((x5_2).toNat * 4)).block, (ad332.add ((x5_2).toNat * 4)).off + 1, none⟩ = some (.int .i64 ((rd_T54 l0_3 x5_2).f1)) ∧ w'.cell? ⟨(ad332.add ((x5_2).toNat * 4)).block, (ad332.add ((x5_2).toNat * 4)).off + 2, none⟩ = some (.string ((rd_T54 l0_3 x5_2).f2)) ∧ w'.cell? ⟨(ad332.add ((x5_2).toNat * 4)).block, (ad332.add ((x5_2).toNat * 4)).off + 3, none⟩ = some (.slice A332_3 ((rd_T54 l0_3 x5_2).f3).length c332_3) ∧ w'.cell? (ad333.add ((x5_2).toNat * 4)) = some (.int .i64 ((rd_T54 l1_3 x5_2).f0)) ∧ w'.cell? ⟨(ad333.add ((x5_2).toNat * 4)).block, (ad333.add ((x5_2).toNat * 4)).off + 1, none⟩ = some (.int .i64 ((rd_T54 l1_3 x5_2).f1)) ∧ w'.cell? ⟨(ad333.add ((x5_2).toNat * 4)).block, (ad333.add ((x5_2).toNat * 4)).off + 2, none⟩ = some (.string ((rd_T54 l1_3 x5_2).f2)) ∧ w'.cell? ⟨(ad333.add ((x5_2).toNat * 4)).block, (ad333.add ((x5_2).toNat * 4)).off + 3, none⟩ = some (.slice A333_3 ((rd_T54 l1_3 x5_2).f3).length c333_3)) (ds := []) spec_SameExpr.m0 (by kernel_rfl) rfl rfl ⟨(blk_cell BK330.out 0).trans rfl, (blk_cell BK330.out 1).trans rfl, (blk_cell BK330.out 2).trans rfl, (blk_cell BK330.out 3).trans rfl, (blk_cell BK331.out 0).trans rfl, (blk_cell BK331.out 1).trans rfl, (blk_cell BK331.out 2).trans rfl, (blk_cell BK331.out 3).trans rfl, ((HB.out.cell (World.block_lt_of_cell? w _ hw332_0)).trans hw332_0), ((HB.out.cell (World.block_lt_of_cell? w _ hw332_1)).trans hw332_1), ((HB.out.cell (World.block_lt_of_cell? w _ hw332_2)).trans hw332_2), ((HB.out.cell (World.block_lt_of_cell? w _ hw332_3)).trans hw332_3), ((HB.out.cell (World.block_lt_of_cell? w _ hw333_0)).trans hw333_0), ((HB.out.cell (World.block_lt_of_cell? w _ hw333_1)).trans hw333_1), ((HB.out.cell (World.block_lt_of_cell? w _ hw333_2)).trans hw333_2), ((HB.out.cell (World.block_lt_of_cell? w _ hw333_3)).trans hw333_3)⟩ (fun hHeld => ?_); refine with_tabW spec_SameExpr.tab6 spec_SameExpr.bits6 (fun HT_ HW_ => ?_)
          generalize wr.drew = w29 at BK330 BK331 HB HR332_3 HR333_3 hx332_0 hx332_1 hx332_2 hx332_3 hx333_0 hx333_1 hx333_2 hx333_3 hHeld ⊢
          refine pure_ (i := 0) (N := some 41) (v := ?_) (a' := ?_) spec_SameExpr.m1 rfl rfl (any_of HT_.out (by kernel_rfl)) (fun _ _ _ h => h) (Or.inl ⟨by rfl, ?_⟩) ?_ ?_
          rotate_left
          ·
           intro w'
           go_simp
           with_reducible rfl
          rotate_left
          ·
           simp only [Act.put, List.setIfInBounds_toArray, List.set_cons_zero, List.set_cons_succ, i64_w, i32_w]
           rfl
          refine pure_ (i := 2) (N := some 43) (v := ?_) (a' := ?_) spec_SameExpr.m2 rfl rfl (any_of HT_.out (by kernel_rfl)) (fun _ _ _ h => h) (Or.inl ⟨by rfl, ?_⟩) ?_ ?_
          rotate_left
          ·
           intro w'
           go_simp
           with_reducible rfl
          rotate_left
          ·
           simp only [Act.put, List.setIfInBounds_toArray, List.set_cons_zero, List.set_cons_succ, i64_w, i32_w]
           rfl
          refine pure_ (i := 5) (N := some 46) (v := ?_) (a' := ?_) spec_SameExpr.m3 rfl rfl (any_of HT_.out (by kernel_rfl)) (fun _ _ _ h => h) (Or.inl ⟨by rfl, ?_⟩) ?_ ?_
          rotate_left
          ·
           intro w'
           go_simp
           with_reducible rfl
          rotate_left
          ·
           simp only [Act.put, List.setIfInBounds_toArray, List.set_cons_zero, List.set_cons_succ, i64_w, i32_w]
           rfl
          refine pure_ (i := 7) (N := some 48) (v := ?_) (a' := ?_) spec_SameExpr.m4 rfl rfl (any_of HT_.out (by kernel_rfl)) (fun _ _ _ h => h) (Or.inl ⟨by rfl, ?_⟩) ?_ ?_
          rotate_left
          ·
           intro w'
           go_simp
           with_reducible rfl
          rotate_left
          ·
           simp only [Act.put, List.setIfInBounds_toArray, List.set_cons_zero, List.set_cons_succ, i64_w, i32_w]
           rfl
          refine take_ (i := 1) (N := some 42) (v := ?_) (a' := ?_) spec_SameExpr.m5 rfl rfl (take_ofW HT_.out HW_.out (by kernel_rfl)) (fun _ _ _ h => h) (Or.inl ⟨by rfl, ?_⟩) hHeld ?_ ?_
          rotate_left
          ·
           rintro w' ⟨s0, s1, s2, s3, s4, s5, s6, s7, s8, s9, s10, s11, s12, s13, s14, s15⟩
           go_simp
           with_reducible rfl
          rotate_left
          ·
           simp only [Act.put, List.setIfInBounds_toArray, List.set_cons_zero, List.set_cons_succ, i64_w, i32_w]
           rfl
          refine pure_ (i := 3) (N := some 44) (v := ?_) (a' := ?_) spec_SameExpr.m6 rfl rfl (any_of HT_.out (by kernel_rfl)) (fun _ _ _ h => h) (Or.inl ⟨by rfl, ?_⟩) ?_ ?_
          rotate_left
          ·
           intro w'
           go_simp
           with_reducible rfl
          rotate_left
          ·
           simp only [Act.put, List.setIfInBounds_toArray, List.set_cons_zero, List.set_cons_succ, i64_w, i32_w]
           rfl
          refine take_ (i := 4) (N := some 45) (v := ?_) (a' := ?_) spec_SameExpr.m7 rfl rfl (take_ofW HT_.out HW_.out (by kernel_rfl)) (fun _ _ _ h => h) (Or.inl ⟨by rfl, ?_⟩) hHeld ?_ ?_
          rotate_left
          ·
           rintro w' ⟨s0, s1, s2, s3, s4, s5, s6, s7, s8, s9, s10, s11, s12, s13, s14, s15⟩
           go_simp
           with_reducible rfl
          rotate_left
          ·
           simp only [Act.put, List.setIfInBounds_toArray, List.set_cons_zero, List.set_cons_succ, i64_w, i32_w]
           rfl
          refine take_ (i := 6) (N := some 47) (v := ?_) (a' := ?_) spec_SameExpr.m8 rfl rfl (take_ofW HT_.out HW_.out (by kernel_rfl)) (fun _ _ _ h => h) (Or.inl ⟨by rfl, ?_⟩) hHeld ?_ ?_
          rotate_left
          ·
           rintro w' ⟨s0, s1, s2, s3, s4, s5, s6, s7, s8, s9, s10, s11, s12, s13, s14, s15⟩
           go_simp
           with_reducible rfl
          rotate_left
          ·
           simp only [Act.put, List.setIfInBounds_toArray, List.set_cons_zero, List.set_cons_succ, i64_w, i32_w]
           rfl
          refine pure_ (i := 8) (N := some 49) (v := ?_) (a' := ?_) spec_SameExpr.m9 rfl rfl (any_of HT_.out (by kernel_rfl)) (fun _ _ _ h => h) (Or.inl ⟨by rfl, ?_⟩) ?_ ?_
          rotate_left
          ·
           intro w'
           go_simp
           with_reducible rfl
          rotate_left
          ·
           simp only [Act.put, List.setIfInBounds_toArray, List.set_cons_zero, List.set_cons_succ, i64_w, i32_w]
           rfl
          refine take_ (i := 9) (N := some 50) (v := ?_) (a' := ?_) spec_SameExpr.m10 rfl rfl (take_ofW HT_.out HW_.out (by kernel_rfl)) (fun _ _ _ h => h) (Or.inl ⟨by rfl, ?_⟩) hHeld ?_ ?_
          rotate_left
          ·
           rintro w' ⟨s0, s1, s2, s3, s4, s5, s6, s7, s8, s9, s10, s11, s12, s13, s14, s15⟩
           go_simp
           with_reducible rfl
          rotate_left
          ·
           simp only [Act.put, List.setIfInBounds_toArray, List.set_cons_zero, List.set_cons_succ, i64_w, i32_w]
           rfl
          refine one_ (i := 10) (N := some 51) spec_SameExpr.m11 rfl rfl (one_of HT_.out (by kernel_rfl)) (by decide) (fun K hK => ?_)
          refine goes_ Try.func33 (by kernel_rfl) rfl #[.agg #[.int .i64 ((rd_T54 l0_3 x5_2).f0), .int .i64 ((rd_T54 l0_3 x5_2).f1), .string ((rd_T54 l0_3 x5_2).f2), .slice A332_3 ((rd_T54 l0_3 x5_2).f3).length c332_3], .agg #[.int .i64 ((rd_T54 l1_3 x5_2).f0), .int .i64 ((rd_T54 l1_3 x5_2).f1), .string ((rd_T54 l1_3 x5_2).f2), .slice A333_3 ((rd_T54 l1_3 x5_2).f3).length c333_3]] (by rfl) rfl rfl (by (try simp only [List.map_toArray, List.map_cons, List.map_nil]); first | done | rfl | (simp only [List.length_drop, List.length_take]; rfl)) ?_
          with_reducible refine (ih k2 (by have := HJ2.out; have := HK2.out; omega) ((rd_T54 l0_3 x5_2).f0) ((rd_T54 l0_3 x5_2).f1) ((rd_T54 l0_3 x5_2).f2) _ _ ((rd_T54 l0_3 x5_2).f3) ((rd_T54 l1_3 x5_2).f0) ((rd_T54 l1_3 x5_2).f1) ((rd_T54 l1_3 x5_2).f2) _ _ ((rd_T54 l1_3 x5_2).f3) true _ ?side1 ?side2 ?side3 ?side4 A25.out).mono ?_
          (case side1 => repeat (first | exact (Kd.C_below HR332_3.out HB.out) | (with_reducible refine Kd.C_alloc ?_ _) | (with_reducible refine Kd.C_drewN ?_ _) | (with_reducible refine Kd.C_drew ?_)))
          (case side2 => exact HC332_3.out)
          (case side3 => repeat (first | exact (Kd.C_below HR333_3.out HB.out) | (with_reducible refine Kd.C_alloc ?_ _) | (with_reducible refine Kd.C_drewN ?_ _) | (with_reducible refine Kd.C_drew ?_)))
          (case side4 => exact HC333_3.out)
          rintro e w30 ⟨rfl, hb⟩
          refine ⟨_, rfl, ?_⟩
          have n0_ := Aside0.mk (blk_below (g := gb330) (o := .cells #[.int .i64 a0_0, .int .i64 a0_1, .string a0_2, .slice (some ad332) l0_3.length c0_3] 54 (0, 0)) (by exact bk BK330.out) hb)
          have n1_ := Aside0.mk (blk_below (g := gb331) (o := .cells #[.int .i64 a1_0, .int .i64 a1_1, .string a1_2, .slice (some ad333) l1_3.length c1_3] 54 (0, 0)) (by exact bk BK331.out) hb)
          have n2_ := Aside0.mk (below_step (by exact bw HB.out) hb)
          clear BK330
          clear BK331
          clear HB
          have BK330 := n0_
          have BK331 := n1_
          have HB := n2_
          clear n0_ n1_ n2_
          (try clear hb)
          (try clear hb2)
          (try clear hk)
          (try clear hi)
          refine hK.out _ _ ⟨(blk_cell BK330.out 0).trans rfl, (blk_cell BK330.out 1).trans rfl, (blk_cell BK330.out 2).trans rfl, (blk_cell BK330.out 3).trans rfl, (blk_cell BK331.out 0).trans rfl, (blk_cell BK331.out 1).trans rfl, (blk_cell BK331.out 2).trans rfl, (blk_cell BK331.out 3).trans rfl, ((HB.out.cell (World.block_lt_of_cell? w _ hw332_0)).trans hw332_0), ((HB.out.cell (World.block_lt_of_cell? w _ hw332_1)).trans hw332_1), ((HB.out.cell (World.block_lt_of_cell? w _ hw332_2)).trans hw332_2), ((HB.out.cell (World.block_lt_of_cell? w _ hw332_3)).trans hw332_3), ((HB.out.cell (World.block_lt_of_cell? w _ hw333_0)).trans hw333_0), ((HB.out.cell (World.block_lt_of_cell? w _ hw333_1)).trans hw333_1), ((HB.out.cell (World.block_lt_of_cell? w _ hw333_2)).trans hw333_2), ((HB.out.cell (World.block_lt_of_cell? w _ hw333_3)).trans hw333_3)⟩ (fun hHeld => ?_)
          clear hK K
          refine norm_ (a' := ?_) ?_ ?_
          rotate_left
          ·
           show Act.put _ (some 51) _ = _
           simp only [Act.put, List.setIfInBounds_toArray, List.set_cons_zero, List.set_cons_succ, i64_w, i32_w]
           rfl
          refine pure_ (i := 11) (N := some 52) (v := ?_) (a' := ?_) spec_SameExpr.m12 rfl rfl (any_of HT_.out (by kernel_rfl)) (fun _ _ _ h => h) (Or.inl ⟨by rfl, ?_⟩) ?_ ?_
          rotate_left
          ·
           intro w'
           go_simp
           with_reducible rfl
          rotate_left
          ·
           simp only [Act.put, List.setIfInBounds_toArray, List.set_cons_zero, List.set_cons_succ, i64_w, i32_w]
           rfl
          refine done_ (done_of HT_.out (by kernel_rfl)) ?_
          try go_wp2
          go_roundg k2
          case measure => have := HJ2.out; have := HK2.out; omega
          case rel => exact ⟨(wrap64 (x5_2 + 1)), (by first | rfl | (simp; done) | (simp [*]; done)), H', ⟨by have := HJ2.out; have := HK2.out; omega⟩, ⟨by exact bk BK330.out⟩, ⟨by exact bk BK331.out⟩, ⟨by exact bw HB.out⟩⟩
         ·
          replace c26 := Bool.eq_false_iff.mpr c26
          subst c26
          have H1 : (some false) = some r := by rw [if_neg (show ¬ (false = true) by decide)] at H; exact H
          clear H
          have H := H1
          clear H1
          obtain rfl := Option.some.inj H
          have hnb31 := NB330_331.out
          have hnc31 := NB331_330.out
          have hcz32_0 : wr.cell? ⟨gb330, 0, none⟩ = some (.int .i64 a0_0) := (blk_cell BK330.out 0).trans rfl
          have hcz32_1 : wr.cell? ⟨gb330, 1, none⟩ = some (.int .i64 a0_1) := (blk_cell BK330.out 1).trans rfl
          have hcz32_2 : wr.cell? ⟨gb330, 2, none⟩ = some (.string a0_2) := (blk_cell BK330.out 2).trans rfl
          have hcz32_3 : wr.cell? ⟨gb330, 3, none⟩ = some (.slice A0_3 l0_3.length c0_3) := (blk_cell BK330.out 3).trans rfl
          have hfz32_0 := blk_frozen BK330.out 0
          have hfz32_1 := blk_frozen BK330.out 1
          have hfz32_2 := blk_frozen BK330.out 2
          have hfz32_3 := blk_frozen BK330.out 3
          try go_wp2
          have n0_ := Aside0.mk (blk_drew BK330.out)
          have n1_ := Aside0.mk (blk_drew BK331.out)
          have n2_ := Aside0.mk (below_drew1 HB.out)
          clear BK330
          clear BK331
          clear HB
          have BK330 := n0_
          have BK331 := n1_
          have HB := n2_
          clear n0_ n1_ n2_
          have p332 : 0 ≤ (x5_2 : Int) := of_decide_eq_true (by first | (with_reducible assumption) | assumption)
          have q332 : x5_2 < (l0_3.length : Int) := of_decide_eq_true (by first | (with_reducible assumption) | assumption)
          obtain ⟨ad332, A332_3, c332_3, e332, hx332_0, hx332_1, hx332_2, hx332_3, hl332_3, hi332_3⟩ := at_T54 HR0_3.out x5_2 p332 q332
          have hw332_3 := hx332_3
          have hw332_2 := hx332_2
          have hw332_1 := hx332_1
          have hw332_0 := hx332_0
          cases e332
          replace hx332_0 := (HB.out.cell (World.block_lt_of_cell? w _ hx332_0)).trans hx332_0
          replace hx332_1 := (HB.out.cell (World.block_lt_of_cell? w _ hx332_1)).trans hx332_1
          replace hx332_2 := (HB.out.cell (World.block_lt_of_cell? w _ hx332_2)).trans hx332_2
          replace hx332_3 := (HB.out.cell (World.block_lt_of_cell? w _ hx332_3)).trans hx332_3
          have HR332_3 := Aside0.mk hi332_3
          have HC332_3 := Aside0.mk hl332_3
          clear hi332_3 hl332_3
          replace p332 := eq_true p332
          replace q332 := eq_true q332
          have p333 : 0 ≤ (x5_2 : Int) := of_decide_eq_true (by first | (with_reducible assumption) | assumption)
          have q333 : x5_2 < (l1_3.length : Int) := of_decide_eq_true (by first | (with_reducible assumption) | assumption)
          obtain ⟨ad333, A333_3, c333_3, e333, hx333_0, hx333_1, hx333_2, hx333_3, hl333_3, hi333_3⟩ := at_T54 HR1_3.out x5_2 p333 q333
          have hw333_3 := hx333_3
          have hw333_2 := hx333_2
          have hw333_1 := hx333_1
          have hw333_0 := hx333_0
          cases e333
          replace hx333_0 := (HB.out.cell (World.block_lt_of_cell? w _ hx333_0)).trans hx333_0
          replace hx333_1 := (HB.out.cell (World.block_lt_of_cell? w _ hx333_1)).trans hx333_1
          replace hx333_2 := (HB.out.cell (World.block_lt_of_cell? w _ hx333_2)).trans hx333_2
          replace hx333_3 := (HB.out.cell (World.block_lt_of_cell? w _ hx333_3)).trans hx333_3
          have HR333_3 := Aside0.mk hi333_3
          have HC333_3 := Aside0.mk hl333_3
          clear hi333_3 hl333_3
          replace p333 := eq_true p333
          replace q333 := eq_true q333
          refine start_ (n := 12) (S := fun w' => w'.cell? ⟨gb330, 0, none⟩ = some (.int .i64 a0_0) ∧ w'.cell? ⟨gb330, 1, none⟩ = some (.int .i64 a0_1) ∧ w'.cell? ⟨gb330, 2, none⟩ = some (.string a0_2) ∧ w'.cell? ⟨gb330, 3, none⟩ = some (.slice (some ad332) l0_3.length c0_3) ∧ w'.cell? ⟨gb331, 0, none⟩ = some (.int .i64 a1_0) ∧ w'.cell? ⟨gb331, 1, none⟩ = some (.int .i64 a1_1) ∧ w'.cell? ⟨gb331, 2, none⟩ = some (.string a1_2) ∧ w'.cell? ⟨gb331, 3, none⟩ = some (.slice (some ad333) l1_3.length c1_3) ∧ w'.cell? (ad332.add ((x5_2).toNat * 4)) = some (.int .i64 ((rd_T54 l0_3 x5_2).f0)) ∧ w'.cell? ⟨(ad332.add ((x5_2).toNat * 4)).block, (ad332.add ((x5_2).toNat * 4)).off + 1, none⟩ = some (.int .i64 ((rd_T54 l0_3 x5_2).f1)) ∧ w'.cell? ⟨(ad332.add ((x5_2).toNat * 4)).block, (ad332.add ((x5_2).toNat * 4)).off + 2, none⟩ = some (.string ((rd_T54 l0_3 x5_2).f2)) ∧ w'.cell? ⟨(ad332.add ((x5_2).toNat * 4)).block, (ad332.add ((x5_2).toNat * 4)).off + 3, none⟩ = some (.slice A332_3 ((rd_T54 l0_3 x5_2).f3).length c332_3) ∧ w'.cell? (ad333.add ((x5_2).toNat * 4)) = some (.int .i64 ((rd_T54 l1_3 x5_2).f0)) ∧ w'.cell? ⟨(ad333.add ((x5_2).toNat * 4)).block, (ad333.add ((x5_2).toNat * 4)).off + 1, none⟩ = some (.int .i64 ((rd_T54 l1_3 x5_2).f1)) ∧ w'.cell? ⟨(ad333.add ((x5_2).toNat * 4)).block, (ad333.add ((x5_2).toNat * 4)).off + 2, none⟩ = some (.string ((rd_T54 l1_3 x5_2).f2)) ∧ w'.cell? ⟨(ad333.add ((x5_2).toNat * 4)).block, (ad333.add ((x5_2).toNat * 4)).off + 3, none⟩ = some (.slice A333_3 ((rd_T54 l1_3 x5_2).f3).length c333_3)) (ds := []) spec_SameExpr.m0 (by kernel_rfl) rfl rfl ⟨(blk_cell BK330.out 0).trans rfl, (blk_cell BK330.out 1).trans rfl, (blk_cell BK330.out 2).trans rfl, (blk_cell BK330.out 3).trans rfl, (blk_cell BK331.out 0).trans rfl, (blk_cell BK331.out 1).trans rfl, (blk_cell BK331.out 2).trans rfl, (blk_cell BK331.out 3).trans rfl, ((HB.out.cell (World.block_lt_of_cell? w _ hw332_0)).trans hw332_0), ((HB.out.cell (World.block_lt_of_cell? w _ hw332_1)).trans hw332_1), ((HB.out.cell (World.block_lt_of_cell? w _ hw332_2)).trans hw332_2), ((HB.out.cell (World.block_lt_of_cell? w _ hw332_3)).trans hw332_3), ((HB.out.cell (World.block_lt_of_cell? w _ hw333_0)).trans hw333_0), ((HB.out.cell (World.block_lt_of_cell? w _ hw333_1)).trans hw333_1), ((HB.out.cell (World.block_lt_of_cell? w _ hw333_2)).trans hw333_2), ((HB.out.cell (World.block_lt_of_cell? w _ hw333_3)).trans hw333_3)⟩ (fun hHeld => ?_); refine with_tabW spec_SameExpr.tab6 spec_SameExpr.bits6 (fun HT_ HW_ => ?_)
          generalize wr.drew = w33 at BK330 BK331 HB HR332_3 HR333_3 hx332_0 hx332_1 hx332_2 hx332_3 hx333_0 hx333_1 hx333_2 hx333_3 hHeld ⊢
          refine pure_ (i := 0) (N := some 41) (v := ?_) (a' := ?_) spec_SameExpr.m1 rfl rfl (any_of HT_.out (by kernel_rfl)) (fun _ _ _ h => h) (Or.inl ⟨by rfl, ?_⟩) ?_ ?_
          rotate_left
          ·
           intro w'
           go_simp
           with_reducible rfl
          rotate_left
          ·
           simp only [Act.put, List.setIfInBounds_toArray, List.set_cons_zero, List.set_cons_succ, i64_w, i32_w]
           rfl
          refine pure_ (i := 2) (N := some 43) (v := ?_) (a' := ?_) spec_SameExpr.m2 rfl rfl (any_of HT_.out (by kernel_rfl)) (fun _ _ _ h => h) (Or.inl ⟨by rfl, ?_⟩) ?_ ?_
          rotate_left
          ·
           intro w'
           go_simp
           with_reducible rfl
          rotate_left
          ·
           simp only [Act.put, List.setIfInBounds_toArray, List.set_cons_zero, List.set_cons_succ, i64_w, i32_w]
           rfl
          refine pure_ (i := 5) (N := some 46) (v := ?_) (a' := ?_) spec_SameExpr.m3 rfl rfl (any_of HT_.out (by kernel_rfl)) (fun _ _ _ h => h) (Or.inl ⟨by rfl, ?_⟩) ?_ ?_
          rotate_left
          ·
           intro w'
           go_simp
           with_reducible rfl
          rotate_left
          ·
           simp only [Act.put, List.setIfInBounds_toArray, List.set_cons_zero, List.set_cons_succ, i64_w, i32_w]
           rfl
          refine pure_ (i := 7) (N := some 48) (v := ?_) (a' := ?_) spec_SameExpr.m4 rfl rfl (any_of HT_.out (by kernel_rfl)) (fun _ _ _ h => h) (Or.inl ⟨by rfl, ?_⟩) ?_ ?_
          rotate_left
          ·
           intro w'
           go_simp
           with_reducible rfl
          rotate_left
          ·
           simp only [Act.put, List.setIfInBounds_toArray, List.set_cons_zero, List.set_cons_succ, i64_w, i32_w]
           rfl
          refine take_ (i := 1) (N := some 42) (v := ?_) (a' := ?_) spec_SameExpr.m5 rfl rfl (take_ofW HT_.out HW_.out (by kernel_rfl)) (fun _ _ _ h => h) (Or.inl ⟨by rfl, ?_⟩) hHeld ?_ ?_
          rotate_left
          ·
           rintro w' ⟨s0, s1, s2, s3, s4, s5, s6, s7, s8, s9, s10, s11, s12, s13, s14, s15⟩
           go_simp
           with_reducible rfl
          rotate_left
          ·
           simp only [Act.put, List.setIfInBounds_toArray, List.set_cons_zero, List.set_cons_succ, i64_w, i32_w]
           rfl
          refine pure_ (i := 3) (N := some 44) (v := ?_) (a' := ?_) spec_SameExpr.m6 rfl rfl (any_of HT_.out (by kernel_rfl)) (fun _ _ _ h => h) (Or.inl ⟨by rfl, ?_⟩) ?_ ?_
          rotate_left
          ·
           intro w'
           go_simp
           with_reducible rfl
          rotate_left
          ·
           simp only [Act.put, List.setIfInBounds_toArray, List.set_cons_zero, List.set_cons_succ, i64_w, i32_w]
           rfl
          refine take_ (i := 4) (N := some 45) (v := ?_) (a' := ?_) spec_SameExpr.m7 rfl rfl (take_ofW HT_.out HW_.out (by kernel_rfl)) (fun _ _ _ h => h) (Or.inl ⟨by rfl, ?_⟩) hHeld ?_ ?_
          rotate_left
          ·
           rintro w' ⟨s0, s1, s2, s3, s4, s5, s6, s7, s8, s9, s10, s11, s12, s13, s14, s15⟩
           go_simp
           with_reducible rfl
          rotate_left
          ·
           simp only [Act.put, List.setIfInBounds_toArray, List.set_cons_zero, List.set_cons_succ, i64_w, i32_w]
           rfl
          refine take_ (i := 6) (N := some 47) (v := ?_) (a' := ?_) spec_SameExpr.m8 rfl rfl (take_ofW HT_.out HW_.out (by kernel_rfl)) (fun _ _ _ h => h) (Or.inl ⟨by rfl, ?_⟩) hHeld ?_ ?_
          rotate_left
          ·
           rintro w' ⟨s0, s1, s2, s3, s4, s5, s6, s7, s8, s9, s10, s11, s12, s13, s14, s15⟩
           go_simp
           with_reducible rfl
          rotate_left
          ·
           simp only [Act.put, List.setIfInBounds_toArray, List.set_cons_zero, List.set_cons_succ, i64_w, i32_w]
           rfl
          refine pure_ (i := 8) (N := some 49) (v := ?_) (a' := ?_) spec_SameExpr.m9 rfl rfl (any_of HT_.out (by kernel_rfl)) (fun _ _ _ h => h) (Or.inl ⟨by rfl, ?_⟩) ?_ ?_
          rotate_left
          ·
           intro w'
           go_simp
           with_reducible rfl
          rotate_left
          ·
           simp only [Act.put, List.setIfInBounds_toArray, List.set_cons_zero, List.set_cons_succ, i64_w, i32_w]
           rfl
          refine take_ (i := 9) (N := some 50) (v := ?_) (a' := ?_) spec_SameExpr.m10 rfl rfl (take_ofW HT_.out HW_.out (by kernel_rfl)) (fun _ _ _ h => h) (Or.inl ⟨by rfl, ?_⟩) hHeld ?_ ?_
          rotate_left
          ·
           rintro w' ⟨s0, s1, s2, s3, s4, s5, s6, s7, s8, s9, s10, s11, s12, s13, s14, s15⟩
           go_simp
           with_reducible rfl
          rotate_left
          ·
           simp only [Act.put, List.setIfInBounds_toArray, List.set_cons_zero, List.set_cons_succ, i64_w, i32_w]
           rfl
          refine one_ (i := 10) (N := some 51) spec_SameExpr.m11 rfl rfl (one_of HT_.out (by kernel_rfl)) (by decide) (fun K hK => ?_)
          refine goes_ Try.func33 (by kernel_rfl) rfl #[.agg #[.int .i64 ((rd_T54 l0_3 x5_2).f0), .int .i64 ((rd_T54 l0_3 x5_2).f1), .string ((rd_T54 l0_3 x5_2).f2), .slice A332_3 ((rd_T54 l0_3 x5_2).f3).length c332_3], .agg #[.int .i64 ((rd_T54 l1_3 x5_2).f0), .int .i64 ((rd_T54 l1_3 x5_2).f1), .string ((rd_T54 l1_3 x5_2).f2), .slice A333_3 ((rd_T54 l1_3 x5_2).f3).length c333_3]] (by rfl) rfl rfl (by (try simp only [List.map_toArray, List.map_cons, List.map_nil]); first | done | rfl | (simp only [List.length_drop, List.length_take]; rfl)) ?_
          with_reducible refine (ih k2 (by have := HJ2.out; have := HK2.out; omega) ((rd_T54 l0_3 x5_2).f0) ((rd_T54 l0_3 x5_2).f1) ((rd_T54 l0_3 x5_2).f2) _ _ ((rd_T54 l0_3 x5_2).f3) ((rd_T54 l1_3 x5_2).f0) ((rd_T54 l1_3 x5_2).f1) ((rd_T54 l1_3 x5_2).f2) _ _ ((rd_T54 l1_3 x5_2).f3) false _ ?side1 ?side2 ?side3 ?side4 A25.out).mono ?_
          (case side1 => repeat (first | exact (Kd.C_below HR332_3.out HB.out) | (with_reducible refine Kd.C_alloc ?_ _) | (with_reducible refine Kd.C_drewN ?_ _) | (with_reducible refine Kd.C_drew ?_)))
          (case side2 => exact HC332_3.out)
          (case side3 => repeat (first | exact (Kd.C_below HR333_3.out HB.out) | (with_reducible refine Kd.C_alloc ?_ _) | (with_reducible refine Kd.C_drewN ?_ _) | (with_reducible refine Kd.C_drew ?_)))
          (case side4 => exact HC333_3.out)
          rintro e w34 ⟨rfl, hb⟩
          refine ⟨_, rfl, ?_⟩
          have n0_ := Aside0.mk (blk_below (g := gb330) (o := .cells #[.int .i64 a0_0, .int .i64 a0_1, .string a0_2, .slice (some ad332) l0_3.length c0_3] 54 (0, 0)) (by exact bk BK330.out) hb)
          have n1_ := Aside0.mk (blk_below (g := gb331) (o := .cells #[.int .i64 a1_0, .int .i64 a1_1, .string a1_2, .slice (some ad333) l1_3.length c1_3] 54 (0, 0)) (by exact bk BK331.out) hb)
          have n2_ := Aside0.mk (below_step (by exact bw HB.out) hb)
          clear BK330
          clear BK331
          clear HB
          have BK330 := n0_
          have BK331 := n1_
          have HB := n2_
          clear n0_ n1_ n2_
          (try clear hb)
          (try clear hb2)
          (try clear hk)
          (try clear hi)
          refine hK.out _ _ ⟨(blk_cell BK330.out 0).trans rfl, (blk_cell BK330.out 1).trans rfl, (blk_cell BK330.out 2).trans rfl, (blk_cell BK330.out 3).trans rfl, (blk_cell BK331.out 0).trans rfl, (blk_cell BK331.out 1).trans rfl, (blk_cell BK331.out 2).trans rfl, (blk_cell BK331.out 3).trans rfl, ((HB.out.cell (World.block_lt_of_cell? w _ hw332_0)).trans hw332_0), ((HB.out.cell (World.block_lt_of_cell? w _ hw332_1)).trans hw332_1), ((HB.out.cell (World.block_lt_of_cell? w _ hw332_2)).trans hw332_2), ((HB.out.cell (World.block_lt_of_cell? w _ hw332_3)).trans hw332_3), ((HB.out.cell (World.block_lt_of_cell? w _ hw333_0)).trans hw333_0), ((HB.out.cell (World.block_lt_of_cell? w _ hw333_1)).trans hw333_1), ((HB.out.cell (World.block_lt_of_cell? w _ hw333_2)).trans hw333_2), ((HB.out.cell (World.block_lt_of_cell? w _ hw333_3)).trans hw333_3)⟩ (fun hHeld => ?_)
          clear hK K
          refine norm_ (a' := ?_) ?_ ?_
          rotate_left
          ·
           show Act.put _ (some 51) _ = _
           simp only [Act.put, List.setIfInBounds_toArray, List.set_cons_zero, List.set_cons_succ, i64_w, i32_w]
           rfl
          refine pure_ (i := 11) (N := some 52) (v := ?_) (a' := ?_) spec_SameExpr.m12 rfl rfl (any_of HT_.out (by kernel_rfl)) (fun _ _ _ h => h) (Or.inl ⟨by rfl, ?_⟩) ?_ ?_
          rotate_left
          ·
           intro w'
           go_simp
           with_reducible rfl
          rotate_left
          ·
           simp only [Act.put, List.setIfInBounds_toArray, List.set_cons_zero, List.set_cons_succ, i64_w, i32_w]
           rfl
          refine done_ (done_of HT_.out (by kernel_rfl)) ?_
          try go_wp2
          go_ret
          exact ⟨by first | rfl | (simp [errW_none, errW_some] <;> rfl) | (simp [*, errW_none, errW_some] <;> rfl), by exact bw HB.out⟩
        ·
         rw [if_neg c24] at H
         exact absurd H (by simp)
       ·
        rw [if_neg c23] at H
        exact absurd H (by simp)
      ·
       rw [if_neg c22] at H
       have c22b0 : decide (x5_2 < (l0_3.length : Int)) = false := decide_eq_false c22
       clear c22
       obtain rfl := Option.some.inj H
       have hnb35 := NB330_331.out
       have hnc35 := NB331_330.out
       have hcz36_0 : wr.cell? ⟨gb330, 0, none⟩ = some (.int .i64 a0_0) := (blk_cell BK330.out 0).trans rfl
       have hcz36_1 : wr.cell? ⟨gb330, 1, none⟩ = some (.int .i64 a0_1) := (blk_cell BK330.out 1).trans rfl
       have hcz36_2 : wr.cell? ⟨gb330, 2, none⟩ = some (.string a0_2) := (blk_cell BK330.out 2).trans rfl
       have hcz36_3 : wr.cell? ⟨gb330, 3, none⟩ = some (.slice A0_3 l0_3.length c0_3) := (blk_cell BK330.out 3).trans rfl
       have hfz36_0 := blk_frozen BK330.out 0
       have hfz36_1 := blk_frozen BK330.out 1
       have hfz36_2 := blk_frozen BK330.out 2
       have hfz36_3 := blk_frozen BK330.out 3
       go_wp2
       go_ret
       exact ⟨by first | rfl | (simp [errW_none, errW_some] <;> rfl) | (simp [*, errW_none, errW_some] <;> rfl), by exact bw HB.out⟩

end Go.Proofs.Ytefgbocbhohkeaa.P
