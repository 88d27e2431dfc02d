-- Written by a program of this session (wip/tool).
import Derived.Test.YtefgbocbhohkeaaPx0
namespace Go.Proofs.Ytefgbocbhohkeaa.P
open Go.RowKit Go.Proofs.YtefgbocbhohkeaaW.PrintWords Go.Proofs.YtefgbocbhohkeaaW.PrintLast Go.Proofs.YtefgbocbhohkeaaW.PrintMore
attribute [local go_sem] max2_int min2_int max_two min_two max_three min_three max_four min_four   -- for this text's walks alone
set_option linter.unusedVariables false
set_option linter.unusedSimpArgs false

/-! ### impl_SameExpr: function 35 -/
mutual
def impl_SameExpr.j0 : Nat → Bool → Int → Int → ByteArray → List (S54) → Int → Int → ByteArray → List (S54) → Option (Bool)
 | 0, _, _, _, _, _, _, _, _, _ => none
 | k + 1, x34, x370000, x370001, x370002, x370003, x371000, x371001, x371002, x371003 => if x34 = true then (some false) else (impl_SameExpr.l0 k x370003 (x370003.length : Int) 0 x371000 x371001 x371002 x371003)
def impl_SameExpr.l0 : Nat → List (S54) → Int → Int → Int → Int → ByteArray → List (S54) → Option (Bool)
 | 0, _, _, _, _, _, _, _ => none
 | k + 1, x36, x37, x38, x371000, x371001, x371002, x371003 => if x38 < x37 then (if 0 ≤ x38 then (if x38 < (x36.length : Int) then (if x38 < (x371003.length : Int) then ((impl_SameExpr.f k ((rd_T54 x36 x38).f0) ((rd_T54 x36 x38).f1) ((rd_T54 x36 x38).f2) ((rd_T54 x36 x38).f3) ((rd_T54 x371003 x38).f0) ((rd_T54 x371003 x38).f1) ((rd_T54 x371003 x38).f2) ((rd_T54 x371003 x38).f3)).bind fun t374 => (if t374 = true then (impl_SameExpr.l0 k x36 x37 (wrap64 (x38 + 1)) x371000 x371001 x371002 x371003) else (some false))) else (none)) else (none)) else (none)) else (some true)
def impl_SameExpr.f : Nat → Int → Int → ByteArray → List (S54) → Int → Int → ByteArray → List (S54) → Option (Bool)
 | 0, _, _, _, _, _, _, _, _ => none
 | k + 1, a0_0, a0_1, a0_2, l0_3, a1_0, a1_1, a1_2, l1_3 => if a0_0 = a1_0 then (if a0_1 = a1_1 then (if a0_2.toList = a1_2.toList then (impl_SameExpr.j0 k ((l0_3.length : Int) != (l1_3.length : Int)) a0_0 a0_1 a0_2 l0_3 a1_0 a1_1 a1_2 l1_3) else (impl_SameExpr.j0 k true a0_0 a0_1 a0_2 l0_3 a1_0 a1_1 a1_2 l1_3)) else (impl_SameExpr.j0 k true a0_0 a0_1 a0_2 l0_3 a1_0 a1_1 a1_2 l1_3)) else (impl_SameExpr.j0 k true a0_0 a0_1 a0_2 l0_3 a1_0 a1_1 a1_2 l1_3)
end
theorem impl_SameExpr.mono_l : ∀ k, (∀ y0 y1 y2 y3 y4 y5 y6 y7, LeO (impl_SameExpr.f k y0 y1 y2 y3 y4 y5 y6 y7) (impl_SameExpr.f (k + 1) y0 y1 y2 y3 y4 y5 y6 y7)) ∧ (∀ y0 y1 y2 y3 y4 y5 y6 y7 y8, LeO (impl_SameExpr.j0 k y0 y1 y2 y3 y4 y5 y6 y7 y8) (impl_SameExpr.j0 (k + 1) y0 y1 y2 y3 y4 y5 y6 y7 y8)) ∧ (∀ y0 y1 y2 y3 y4 y5 y6, LeO (impl_SameExpr.l0 k y0 y1 y2 y3 y4 y5 y6) (impl_SameExpr.l0 (k + 1) y0 y1 y2 y3 y4 y5 y6))
 | 0 => ⟨fun _ _ _ _ _ _ _ _ r h => by simp [impl_SameExpr.f] at h, fun _ _ _ _ _ _ _ _ _ r h => by simp [impl_SameExpr.j0] at h, fun _ _ _ _ _ _ _ r h => by simp [impl_SameExpr.l0] at h⟩
 | k + 1 => by
  obtain ⟨ih0, ih1, ih2⟩ := impl_SameExpr.mono_l k
  refine ⟨?_, ?_, ?_⟩
  ·
   intro y0 y1 y2 y3 y4 y5 y6 y7
   unfold impl_SameExpr.f
   repeat' first
   | (with_reducible exact ih0 _ _ _ _ _ _ _ _)
   | (with_reducible exact ih1 _ _ _ _ _ _ _ _ _)
   | (with_reducible exact ih2 _ _ _ _ _ _ _)
   | (with_reducible exact LeO.refl _)
   | (with_reducible exact LeO.none _)
   | (with_reducible refine LeO.ite ?_ ?_)
   | (with_reducible refine LeO.bind ?_ (fun _ => ?_))
   | exact ih0 _ _ _ _ _ _ _ _
   | exact ih1 _ _ _ _ _ _ _ _ _
   | exact ih2 _ _ _ _ _ _ _
   | exact LeO.none _
   | refine LeO.ite ?_ ?_
   | refine LeO.bind ?_ (fun _ => ?_)
  ·
   intro y0 y1 y2 y3 y4 y5 y6 y7 y8
   unfold impl_SameExpr.j0
   repeat' first
   | (with_reducible exact ih0 _ _ _ _ _ _ _ _)
   | (with_reducible exact ih1 _ _ _ _ _ _ _ _ _)
   | (with_reducible exact ih2 _ _ _ _ _ _ _)
   | (with_reducible exact LeO.refl _)
   | (with_reducible exact LeO.none _)
   | (with_reducible refine LeO.ite ?_ ?_)
   | (with_reducible refine LeO.bind ?_ (fun _ => ?_))
   | exact ih0 _ _ _ _ _ _ _ _
   | exact ih1 _ _ _ _ _ _ _ _ _
   | exact ih2 _ _ _ _ _ _ _
   | exact LeO.none _
   | refine LeO.ite ?_ ?_
   | refine LeO.bind ?_ (fun _ => ?_)
  ·
   intro y0 y1 y2 y3 y4 y5 y6
   unfold impl_SameExpr.l0
   repeat' first
   | (with_reducible exact ih0 _ _ _ _ _ _ _ _)
   | (with_reducible exact ih1 _ _ _ _ _ _ _ _ _)
   | (with_reducible exact ih2 _ _ _ _ _ _ _)
   | (with_reducible exact LeO.refl _)
   | (with_reducible exact LeO.none _)
   | (with_reducible refine LeO.ite ?_ ?_)
   | (with_reducible refine LeO.bind ?_ (fun _ => ?_))
   | exact ih0 _ _ _ _ _ _ _ _
   | exact ih1 _ _ _ _ _ _ _ _ _
   | exact ih2 _ _ _ _ _ _ _
   | exact LeO.none _
   | refine LeO.ite ?_ ?_
   | refine LeO.bind ?_ (fun _ => ?_)
theorem impl_SameExpr.mono : ∀ a0 a1 a2 a3 a4 a5 a6 a7 k, LeO (impl_SameExpr.f k a0 a1 a2 a3 a4 a5 a6 a7) (impl_SameExpr.f (k + 1) a0 a1 a2 a3 a4 a5 a6 a7) := by
 intro a0 a1 a2 a3 a4 a5 a6 a7 k
 obtain ⟨ih0, ih1, ih2⟩ := impl_SameExpr.mono_l k
 exact ih0 a0 a1 a2 a3 a4 a5 a6 a7
def impl_SameExpr.T6 : Bool × List (List Nat × List Nat) := (true, [([], []), ([], []), ([1], [1]), ([], []), ([2, 3], [2, 3]), ([4], [4]), ([0, 5], [0, 5]), ([6], [6])])
def impl_SameExpr.B6 : List Nat := [0, 0, 2, 0, 14, 30, 63, 127]
theorem impl_SameExpr.tab6 : rtab .any (opsOf Try.f35 6) = impl_SameExpr.T6 := by kernel_rfl
theorem impl_SameExpr.bits6 : waitsOk impl_SameExpr.T6.2 impl_SameExpr.B6 = true := by kernel_rfl
set_option maxHeartbeats 8000000 in
set_option maxRecDepth 100000 in
theorem impl_SameExpr.calls (k : Nat) : ∀ (a0_0 : Int) (a0_1 : Int) (a0_2 : ByteArray) (A0_3 : Option Addr) (c0_3 : Nat) (l0_3 : List (S54)) (a1_0 : Int) (a1_1 : Int) (a1_2 : ByteArray) (A1_3 : Option Addr) (c1_3 : Nat) (l1_3 : List (S54)) (r : Bool) (w : World) (hr0_3 : Kd.C k54 w A0_3 l0_3.length l0_3) (hc0_3 : l0_3.length ≤ c0_3) (hr1_3 : Kd.C k54 w A1_3 l1_3.length l1_3) (hc1_3 : l1_3.length ≤ c1_3) (h : impl_SameExpr.f k a0_0 a0_1 a0_2 l0_3 a1_0 a1_1 a1_2 l1_3 = some r),
  Calls Try.prog 35 #[.agg #[.int .i64 a0_0, .int .i64 a0_1, .string a0_2, .slice A0_3 l0_3.length c0_3], .agg #[.int .i64 a1_0, .int .i64 a1_1, .string a1_2, .slice A1_3 l1_3.length c1_3]] w fun e w' => e = .returned (.bool r) ∧ Below w.heap.size w w' := by
 induction k using Nat.strongRecOn with
 | _ k ih =>
 intro a0_0 a0_1 a0_2 A0_3 c0_3 l0_3 a1_0 a1_1 a1_2 A1_3 c1_3 l1_3 r w hr0_3 hc0_3 hr1_3 hc1_3 h
 cases k with
 | zero => exact absurd h (by simp [impl_SameExpr.f])
 | succ k =>
 simp only [impl_SameExpr.f] at h
 have hu54 := Try.underlying54
 have HR0_3 := Aside0.mk hr0_3
 have HC0_3 := Aside0.mk hc0_3
 clear hr0_3 hc0_3
 have HR1_3 := Aside0.mk hr1_3
 have HC1_3 := Aside0.mk hc1_3
 clear hr1_3 hc1_3
 have HB := Aside0.mk (Below.refl w.heap.size w)
 have H : (if a0_0 = a1_0 then (if a0_1 = a1_1 then (if a0_2.toList = a1_2.toList then (impl_SameExpr.j0 k ((l0_3.length : Int) != (l1_3.length : Int)) a0_0 a0_1 a0_2 l0_3 a1_0 a1_1 a1_2 l1_3) else (impl_SameExpr.j0 k true a0_0 a0_1 a0_2 l0_3 a1_0 a1_1 a1_2 l1_3)) else (impl_SameExpr.j0 k true a0_0 a0_1 a0_2 l0_3 a1_0 a1_1 a1_2 l1_3)) else (impl_SameExpr.j0 k true a0_0 a0_1 a0_2 l0_3 a1_0 a1_1 a1_2 l1_3)) = some r := h
 clear h
 have HC3 := Aside0.mk H
 clear H
 go_enter Try.func35, Try.ntmps35
 go_upto_region 1 with (first | ((with_reducible refine gate_dst (N := 2) rfl ?_); (try (refine gate_guard (by rfl) ?_; dsimp only)); refine box_event ?hg (N := 2) ?hd (cs := #[.int .i64 a0_0, .int .i64 a0_1, .string a0_2, .slice A0_3 l0_3.length c0_3]) (t := 54) ?hr ?_; (case hd => rfl); (case hg => rfl); (case hr => first | (go_simp; done) | (go_simp; rfl)); intro gb369 hg w4 hbox hb; have n0_ := Aside0.mk (below_step (by exact bw HB.out) hb); have n1_ := Aside0.mk (hbox); have n2_ := Aside0.mk ((by rw [hg]; exact (below_size (by exact bw HB.out)) : w.heap.size ≤ gb369)); have n3_ := Aside0.mk ((by rw [hg]; exact (below_size (by exact bw HB.out)) : w.heap.size ≤ gb369)); clear HB; have HB := n0_; have BK369 := n1_; have GW369 := n2_; have GE369 := n3_; clear n0_ n1_ n2_ n3_; clear hb hbox hg) | ((with_reducible refine gate_dst (N := 3) rfl ?_); (try (refine gate_guard (by rfl) ?_; dsimp only)); refine box_event ?hg (N := 3) ?hd (cs := #[.int .i64 a1_0, .int .i64 a1_1, .string a1_2, .slice A1_3 l1_3.length c1_3]) (t := 54) ?hr ?_; (case hd => rfl); (case hg => rfl); (case hr => first | (go_simp; done) | (go_simp; rfl)); intro gb370 hg w5 hbox hb; have n0_ := Aside0.mk (blk_below (g := gb369) (o := .cells #[.int .i64 a0_0, .int .i64 a0_1, .string a0_2, .slice A0_3 l0_3.length c0_3] 54 (0, 0)) (by exact bk BK369.out) hb); have n1_ := Aside0.mk (below_step (by exact bw HB.out) hb); have n2_ := Aside0.mk (hbox); have n3_ := Aside0.mk ((by rw [hg]; exact (below_size (by exact bw HB.out)) : w.heap.size ≤ gb370)); have n4_ := Aside0.mk ((by rw [hg]; exact (below_size (by exact bw HB.out)) : w.heap.size ≤ gb370)); have n5_ := Aside0.mk ((by rw [hg]; exact Nat.ne_of_lt (blk_lt (g := gb369) (o := .cells #[.int .i64 a0_0, .int .i64 a0_1, .string a0_2, .slice A0_3 l0_3.length c0_3] 54 (0, 0)) (by exact bk BK369.out)) : gb369 ≠ gb370)); have n6_ := Aside0.mk ((by rw [hg]; exact Nat.ne_of_gt (blk_lt (g := gb369) (o := .cells #[.int .i64 a0_0, .int .i64 a0_1, .string a0_2, .slice A0_3 l0_3.length c0_3] 54 (0, 0)) (by exact bk BK369.out)) : gb370 ≠ gb369)); clear BK369; clear HB; have BK369 := n0_; have HB := n1_; have BK370 := n2_; have GW370 := n3_; have GE370 := n4_; have NB369_370 := n5_; have NB370_369 := n6_; clear n0_ n1_ n2_ n3_ n4_ n5_ n6_; clear hb hbox hg))
 (try simp only [Act.put, List.setIfInBounds_toArray, List.set_cons_zero, List.set_cons_succ])
 go_cut [34] (fun v34 wc => ∃ (kq : Nat) (x34_2 : Bool), v34 = .bool x34_2 ∧ Aside0 (impl_SameExpr.j0 kq x34_2 a0_0 a0_1 a0_2 l0_3 a1_0 a1_1 a1_2 l1_3 = some r) ∧ Aside0 (kq ≤ k) ∧ Aside0 (wc.heap[gb369]? = some (.cells #[.int .i64 a0_0, .int .i64 a0_1, .string a0_2, (.slice A0_3 l0_3.length c0_3)] 54 (0, 0))) ∧ Aside0 (wc.heap[gb370]? = some (.cells #[.int .i64 a1_0, .int .i64 a1_1, .string a1_2, (.slice A1_3 l1_3.length c1_3)] 54 (0, 0))) ∧ Aside0 (Below w.heap.size w wc))
 case first =>
  have H := HC3.out
  clear HC3
  by_cases c6 : a0_0 = a1_0
  ·
   rw [if_pos c6] at H
   have c6b0 : (a0_0 == a1_0) = true := beq_iff_eq.mpr c6
   have c6b1 : (a0_0 != a1_0) = false := bne_eq_false_iff_eq.mpr c6
   clear c6
   (first | rw [c6b0] | (simp only [i64_w, i32_w]; rw [c6b0]) | rw [c6b2] | rw [c6b1] | skip)
   by_cases c7 : a0_1 = a1_1
   ·
    rw [if_pos c7] at H
    have c7b0 : (a0_1 == a1_1) = true := beq_iff_eq.mpr c7
    have c7b1 : (a0_1 != a1_1) = false := bne_eq_false_iff_eq.mpr c7
    clear c7
    by_cases c8 : a0_2.toList = a1_2.toList
    ·
     rw [if_pos c8] at H
     have c8b0 : (a0_2.toList == a1_2.toList) = true := beq_iff_eq.mpr c8
     have c8b1 : (a0_2.toList != a1_2.toList) = false := bne_eq_false_iff_eq.mpr c8
     clear c8
     have H' := Aside0.mk H
     clear H
     have hnb9 := NB369_370.out
     have hnc9 := NB370_369.out
     have hcz10_0 : w5.cell? ⟨gb369, 0, none⟩ = some (.int .i64 a0_0) := (blk_cell BK369.out 0).trans rfl
     have hcz10_1 : w5.cell? ⟨gb369, 1, none⟩ = some (.int .i64 a0_1) := (blk_cell BK369.out 1).trans rfl
     have hcz10_2 : w5.cell? ⟨gb369, 2, none⟩ = some (.string a0_2) := (blk_cell BK369.out 2).trans rfl
     have hcz10_3 : w5.cell? ⟨gb369, 3, none⟩ = some (.slice A0_3 l0_3.length c0_3) := (blk_cell BK369.out 3).trans rfl
     have hfz10_0 := blk_frozen BK369.out 0
     have hfz10_1 := blk_frozen BK369.out 1
     have hfz10_2 := blk_frozen BK369.out 2
     have hfz10_3 := blk_frozen BK369.out 3
     have hcz11_0 : w5.cell? ⟨gb370, 0, none⟩ = some (.int .i64 a1_0) := (blk_cell BK370.out 0).trans rfl
     have hcz11_1 : w5.cell? ⟨gb370, 1, none⟩ = some (.int .i64 a1_1) := (blk_cell BK370.out 1).trans rfl
     have hcz11_2 : w5.cell? ⟨gb370, 2, none⟩ = some (.string a1_2) := (blk_cell BK370.out 2).trans rfl
     have hcz11_3 : w5.cell? ⟨gb370, 3, none⟩ = some (.slice A1_3 l1_3.length c1_3) := (blk_cell BK370.out 3).trans rfl
     have hfz11_0 := blk_frozen BK370.out 0
     have hfz11_1 := blk_frozen BK370.out 1
     have hfz11_2 := blk_frozen BK370.out 2
     have hfz11_3 := blk_frozen BK370.out 3
     go_wp2
     go_meet
     case rel => exact ⟨_, (((l0_3.length : Int) != (l1_3.length : Int))), (by first | rfl | (simp; done) | (simp [*]; done)), H', ⟨by first | omega | exact Nat.le_refl _⟩, ⟨by exact bk BK369.out⟩, ⟨by exact bk BK370.out⟩, ⟨by exact bw HB.out⟩⟩
    ·
     rw [if_neg c8] at H
     have c8b0 : (a0_2.toList == a1_2.toList) = false := beq_eq_false_iff_ne.mpr c8
     have c8b1 : (a0_2.toList != a1_2.toList) = true := bne_iff_ne.mpr c8
     have H' := Aside0.mk H
     clear H
     have hnb12 := NB369_370.out
     have hnc12 := NB370_369.out
     have hcz13_0 : w5.cell? ⟨gb369, 0, none⟩ = some (.int .i64 a0_0) := (blk_cell BK369.out 0).trans rfl
     have hcz13_1 : w5.cell? ⟨gb369, 1, none⟩ = some (.int .i64 a0_1) := (blk_cell BK369.out 1).trans rfl
     have hcz13_2 : w5.cell? ⟨gb369, 2, none⟩ = some (.string a0_2) := (blk_cell BK369.out 2).trans rfl
     have hcz13_3 : w5.cell? ⟨gb369, 3, none⟩ = some (.slice A0_3 l0_3.length c0_3) := (blk_cell BK369.out 3).trans rfl
     have hfz13_0 := blk_frozen BK369.out 0
     have hfz13_1 := blk_frozen BK369.out 1
     have hfz13_2 := blk_frozen BK369.out 2
     have hfz13_3 := blk_frozen BK369.out 3
     have hcz14_0 : w5.cell? ⟨gb370, 0, none⟩ = some (.int .i64 a1_0) := (blk_cell BK370.out 0).trans rfl
     have hcz14_1 : w5.cell? ⟨gb370, 1, none⟩ = some (.int .i64 a1_1) := (blk_cell BK370.out 1).trans rfl
     have hcz14_2 : w5.cell? ⟨gb370, 2, none⟩ = some (.string a1_2) := (blk_cell BK370.out 2).trans rfl
     have hcz14_3 : w5.cell? ⟨gb370, 3, none⟩ = some (.slice A1_3 l1_3.length c1_3) := (blk_cell BK370.out 3).trans rfl
     have hfz14_0 := blk_frozen BK370.out 0
     have hfz14_1 := blk_frozen BK370.out 1
     have hfz14_2 := blk_frozen BK370.out 2
     have hfz14_3 := blk_frozen BK370.out 3
     go_wp2
     go_meet
     case rel => exact ⟨_, (true), (by first | rfl | (simp; done) | (simp [*]; done)), H', ⟨by first | omega | exact Nat.le_refl _⟩, ⟨by exact bk BK369.out⟩, ⟨by exact bk BK370.out⟩, ⟨by exact bw HB.out⟩⟩
   ·
    rw [if_neg c7] at H
    have c7b0 : (a0_1 == a1_1) = false := beq_eq_false_iff_ne.mpr c7
    have c7b1 : (a0_1 != a1_1) = true := bne_iff_ne.mpr c7
    have H' := Aside0.mk H
    clear H
    have hnb15 := NB369_370.out
    have hnc15 := NB370_369.out
    have hcz16_0 : w5.cell? ⟨gb369, 0, none⟩ = some (.int .i64 a0_0) := (blk_cell BK369.out 0).trans rfl
    have hcz16_1 : w5.cell? ⟨gb369, 1, none⟩ = some (.int .i64 a0_1) := (blk_cell BK369.out 1).trans rfl
    have hcz16_2 : w5.cell? ⟨gb369, 2, none⟩ = some (.string a0_2) := (blk_cell BK369.out 2).trans rfl
    have hcz16_3 : w5.cell? ⟨gb369, 3, none⟩ = some (.slice A0_3 l0_3.length c0_3) := (blk_cell BK369.out 3).trans rfl
    have hfz16_0 := blk_frozen BK369.out 0
    have hfz16_1 := blk_frozen BK369.out 1
    have hfz16_2 := blk_frozen BK369.out 2
    have hfz16_3 := blk_frozen BK369.out 3
    have hcz17_0 : w5.cell? ⟨gb370, 0, none⟩ = some (.int .i64 a1_0) := (blk_cell BK370.out 0).trans rfl
    have hcz17_1 : w5.cell? ⟨gb370, 1, none⟩ = some (.int .i64 a1_1) := (blk_cell BK370.out 1).trans rfl
    have hcz17_2 : w5.cell? ⟨gb370, 2, none⟩ = some (.string a1_2) := (blk_cell BK370.out 2).trans rfl
    have hcz17_3 : w5.cell? ⟨gb370, 3, none⟩ = some (.slice A1_3 l1_3.length c1_3) := (blk_cell BK370.out 3).trans rfl
    have hfz17_0 := blk_frozen BK370.out 0
    have hfz17_1 := blk_frozen BK370.out 1
    have hfz17_2 := blk_frozen BK370.out 2
    have hfz17_3 := blk_frozen BK370.out 3
    go_wp2
    go_meet
    case rel => exact ⟨_, (true), (by first | rfl | (simp; done) | (simp [*]; done)), H', ⟨by first | omega | exact Nat.le_refl _⟩, ⟨by exact bk BK369.out⟩, ⟨by exact bk BK370.out⟩, ⟨by exact bw HB.out⟩⟩
  ·
   rw [if_neg c6] at H
   have c6b0 : (a0_0 == a1_0) = false := beq_eq_false_iff_ne.mpr c6
   have c6b1 : (a0_0 != a1_0) = true := bne_iff_ne.mpr c6
   (first | rw [c6b0] | (simp only [i64_w, i32_w]; rw [c6b0]) | rw [c6b2] | rw [c6b1] | skip)
   have H' := Aside0.mk H
   clear H
   have hnb18 := NB369_370.out
   have hnc18 := NB370_369.out
   have hcz19_0 : w5.cell? ⟨gb369, 0, none⟩ = some (.int .i64 a0_0) := (blk_cell BK369.out 0).trans rfl
   have hcz19_1 : w5.cell? ⟨gb369, 1, none⟩ = some (.int .i64 a0_1) := (blk_cell BK369.out 1).trans rfl
   have hcz19_2 : w5.cell? ⟨gb369, 2, none⟩ = some (.string a0_2) := (blk_cell BK369.out 2).trans rfl
   have hcz19_3 : w5.cell? ⟨gb369, 3, none⟩ = some (.slice A0_3 l0_3.length c0_3) := (blk_cell BK369.out 3).trans rfl
   have hfz19_0 := blk_frozen BK369.out 0
   have hfz19_1 := blk_frozen BK369.out 1
   have hfz19_2 := blk_frozen BK369.out 2
   have hfz19_3 := blk_frozen BK369.out 3
   have hcz20_0 : w5.cell? ⟨gb370, 0, none⟩ = some (.int .i64 a1_0) := (blk_cell BK370.out 0).trans rfl
   have hcz20_1 : w5.cell? ⟨gb370, 1, none⟩ = some (.int .i64 a1_1) := (blk_cell BK370.out 1).trans rfl
   have hcz20_2 : w5.cell? ⟨gb370, 2, none⟩ = some (.string a1_2) := (blk_cell BK370.out 2).trans rfl
   have hcz20_3 : w5.cell? ⟨gb370, 3, none⟩ = some (.slice A1_3 l1_3.length c1_3) := (blk_cell BK370.out 3).trans rfl
   have hfz20_0 := blk_frozen BK370.out 0
   have hfz20_1 := blk_frozen BK370.out 1
   have hfz20_2 := blk_frozen BK370.out 2
   have hfz20_3 := blk_frozen BK370.out 3
   go_wp2
   go_meet
   case rel => exact ⟨_, (true), (by first | rfl | (simp; done) | (simp [*]; done)), H', ⟨by first | omega | exact Nat.le_refl _⟩, ⟨by exact bk BK369.out⟩, ⟨by exact bk BK370.out⟩, ⟨by exact bw HB.out⟩⟩
 case rest =>
  clear HC3
  try clear c1
  try clear p2
  try clear c3
  try clear c6
  try clear c6b0
  try clear c6b1
  try clear c6b2
  try clear c7
  try clear c7b0
  try clear c7b1
  try clear c8
  try clear c8b0
  try clear c8b1
  try clear c9
  try clear c12
  try clear c15
  try clear c18
  try clear hcz10_0
  try clear hcz10_1
  try clear hcz10_2
  try clear hcz10_3
  try clear hcz11_0
  try clear hcz11_1
  try clear hcz11_2
  try clear hcz11_3
  try clear hcz13_0
  try clear hcz13_1
  try clear hcz13_2
  try clear hcz13_3
  try clear hcz14_0
  try clear hcz14_1
  try clear hcz14_2
  try clear hcz14_3
  try clear hcz16_0
  try clear hcz16_1
  try clear hcz16_2
  try clear hcz16_3
  try clear hcz17_0
  try clear hcz17_1
  try clear hcz17_2
  try clear hcz17_3
  try clear hcz19_0
  try clear hcz19_1
  try clear hcz19_2
  try clear hcz19_3
  try clear hcz20_0
  try clear hcz20_1
  try clear hcz20_2
  try clear hcz20_3
  try clear hfz10_0
  try clear hfz10_1
  try clear hfz10_2
  try clear hfz10_3
  try clear hfz11_0
  try clear hfz11_1
  try clear hfz11_2
  try clear hfz11_3
  try clear hfz13_0
  try clear hfz13_1
  try clear hfz13_2
  try clear hfz13_3
  try clear hfz14_0
  try clear hfz14_1
  try clear hfz14_2
  try clear hfz14_3
  try clear hfz16_0
  try clear hfz16_1
  try clear hfz16_2
  try clear hfz16_3
  try clear hfz17_0
  try clear hfz17_1
  try clear hfz17_2
  try clear hfz17_3
  try clear hfz19_0
  try clear hfz19_1
  try clear hfz19_2
  try clear hfz19_3
  try clear hfz20_0
  try clear hfz20_1
  try clear hfz20_2
  try clear hfz20_3
  obtain ⟨kq, x34_2, rfl, HA, HJ2, BK369, BK370, HB⟩ := hcut
  cases kq with
  | zero => exact absurd HA.out (by simp [impl_SameExpr.j0])
  | succ kj2 =>
   have H := HA.out
   clear HA
   simp only [impl_SameExpr.j0] at H
   by_cases c21 : x34_2 = true
   ·
    subst c21
    have H1 : (some false) = some r := by rw [if_pos rfl] at H; exact H
    clear H
    have H := H1
    clear H1
    obtain rfl := Option.some.inj H
    go_wp2
    go_ret
    exact ⟨by first | rfl | (simp [errW_none, errW_some] <;> rfl) | (simp [*, errW_none, errW_some] <;> rfl), by exact bw HB.out⟩
   ·
    replace c21 := Bool.eq_false_iff.mpr c21
    subst c21
    have H1 : (impl_SameExpr.l0 kj2 l0_3 (l0_3.length : Int) 0 a1_0 a1_1 a1_2 l1_3) = some r := by rw [if_neg (show ¬ (false = true) by decide)] at H; exact H
    clear H
    have H := H1
    clear H1
    have H' := Aside0.mk H
    clear H
    have hnb22 := NB369_370.out
    have hnc22 := NB370_369.out
    have hcz23_0 : wc.cell? ⟨gb369, 0, none⟩ = some (.int .i64 a0_0) := (blk_cell BK369.out 0).trans rfl
    have hcz23_1 : wc.cell? ⟨gb369, 1, none⟩ = some (.int .i64 a0_1) := (blk_cell BK369.out 1).trans rfl
    have hcz23_2 : wc.cell? ⟨gb369, 2, none⟩ = some (.string a0_2) := (blk_cell BK369.out 2).trans rfl
    have hcz23_3 : wc.cell? ⟨gb369, 3, none⟩ = some (.slice A0_3 l0_3.length c0_3) := (blk_cell BK369.out 3).trans rfl
    have hfz23_0 := blk_frozen BK369.out 0
    have hfz23_1 := blk_frozen BK369.out 1
    have hfz23_2 := blk_frozen BK369.out 2
    have hfz23_3 := blk_frozen BK369.out 3
    go_wp2
    go_loopg [38] kj2 (fun kq v38 w' => ∃ (x38_2 : Int), v38 = .int .i64 x38_2 ∧ Aside0 (impl_SameExpr.l0 kq l0_3 (l0_3.length : Int) x38_2 a1_0 a1_1 a1_2 l1_3 = some r) ∧ Aside0 (kq ≤ kj2) ∧ Aside0 (w'.heap[gb369]? = some (.cells #[.int .i64 a0_0, .int .i64 a0_1, .string a0_2, (.slice A0_3 l0_3.length c0_3)] 54 (0, 0))) ∧ Aside0 (w'.heap[gb370]? = some (.cells #[.int .i64 a1_0, .int .i64 a1_1, .string a1_2, (.slice A1_3 l1_3.length c1_3)] 54 (0, 0))) ∧ Aside0 (Below w.heap.size w w'))
    case atStart => exact ⟨(0), (by first | rfl | (simp; done) | (simp [*]; done)), H', ⟨Nat.le_refl _⟩, ⟨by exact bk BK369.out⟩, ⟨by exact bk BK370.out⟩, ⟨by exact bw HB.out⟩⟩
    case round =>
     clear H'
     try clear c1
     try clear c2
     try clear p2
     try clear c3
     try clear c6
     try clear c6b0
     try clear c6b1
     try clear c6b2
     try clear c7
     try clear c7b0
     try clear c7b1
     try clear c8
     try clear c8b0
     try clear c8b1
     try clear c9
     try clear c12
     try clear c15
     try clear c18
     try clear c21
     try clear c22
     try clear hcz10_0
     try clear hcz10_1
     try clear hcz10_2
     try clear hcz10_3
     try clear hcz11_0
     try clear hcz11_1
     try clear hcz11_2
     try clear hcz11_3
     try clear hcz13_0
     try clear hcz13_1
     try clear hcz13_2
     try clear hcz13_3
     try clear hcz14_0
     try clear hcz14_1
     try clear hcz14_2
     try clear hcz14_3
     try clear hcz16_0
     try clear hcz16_1
     try clear hcz16_2
     try clear hcz16_3
     try clear hcz17_0
     try clear hcz17_1
     try clear hcz17_2
     try clear hcz17_3
     try clear hcz19_0
     try clear hcz19_1
     try clear hcz19_2
     try clear hcz19_3
     try clear hcz20_0
     try clear hcz20_1
     try clear hcz20_2
     try clear hcz20_3
     try clear hcz23_0
     try clear hcz23_1
     try clear hcz23_2
     try clear hcz23_3
     try clear hfz10_0
     try clear hfz10_1
     try clear hfz10_2
     try clear hfz10_3
     try clear hfz11_0
     try clear hfz11_1
     try clear hfz11_2
     try clear hfz11_3
     try clear hfz13_0
     try clear hfz13_1
     try clear hfz13_2
     try clear hfz13_3
     try clear hfz14_0
     try clear hfz14_1
     try clear hfz14_2
     try clear hfz14_3
     try clear hfz16_0
     try clear hfz16_1
     try clear hfz16_2
     try clear hfz16_3
     try clear hfz17_0
     try clear hfz17_1
     try clear hfz17_2
     try clear hfz17_3
     try clear hfz19_0
     try clear hfz19_1
     try clear hfz19_2
     try clear hfz19_3
     try clear hfz20_0
     try clear hfz20_1
     try clear hfz20_2
     try clear hfz20_3
     try clear hfz23_0
     try clear hfz23_1
     try clear hfz23_2
     try clear hfz23_3
     try clear p2
     obtain ⟨x38_2, rfl, HA, HK2, BK369, BK370, HB⟩ := hrel
     cases gk with
     | zero => exact absurd HA.out (by simp [impl_SameExpr.l0])
     | succ k2 =>
      have H := HA.out
      clear HA
      simp only [impl_SameExpr.l0] at H
      by_cases c24 : x38_2 < (l0_3.length : Int)
      ·
       rw [if_pos c24] at H
       have c24b0 : decide (x38_2 < (l0_3.length : Int)) = true := decide_eq_true c24
       clear c24
       by_cases c25 : 0 ≤ x38_2
       ·
        rw [if_pos c25] at H
        have c25b0 : decide (0 ≤ x38_2) = true := decide_eq_true c25
        clear c25
        by_cases c26 : x38_2 < (l0_3.length : Int)
        ·
         rw [if_pos c26] at H
         have c26b0 : decide (x38_2 < (l0_3.length : Int)) = true := decide_eq_true c26
         clear c26
         by_cases c27 : x38_2 < (l1_3.length : Int)
         ·
          rw [if_pos c27] at H
          have c27b0 : decide (x38_2 < (l1_3.length : Int)) = true := decide_eq_true c27
          clear c27
          replace H := Option.bind_eq_some_iff.mp H
          obtain ⟨t374, A280, H⟩ := H
          replace H : (if t374 = true then (impl_SameExpr.l0 k2 l0_3 (l0_3.length : Int) (wrap64 (x38_2 + 1)) a1_0 a1_1 a1_2 l1_3) else (some false)) = some r := H
          have A28 := Aside0.mk A280
          clear A280
          by_cases c29 : t374 = true
          ·
           subst c29
           have H1 : (impl_SameExpr.l0 k2 l0_3 (l0_3.length : Int) (wrap64 (x38_2 + 1)) a1_0 a1_1 a1_2 l1_3) = some r := by rw [if_pos rfl] at H; exact H
           clear H
           have H := H1
           clear H1
           have H' := Aside0.mk H
           clear H
           have p371 : 0 ≤ (x38_2 : Int) := of_decide_eq_true (by first | (with_reducible assumption) | assumption)
           have q371 : x38_2 < (l0_3.length : Int) := of_decide_eq_true (by first | (with_reducible assumption) | assumption)
           obtain ⟨ad371, A371_3, c371_3, e371, hx371_0, hx371_1, hx371_2, hx371_3, hl371_3, hi371_3⟩ := at_T54 HR0_3.out x38_2 p371 q371
           cases e371
           replace hx371_0 := (HB.out.cell (World.block_lt_of_cell? w _ hx371_0)).trans hx371_0
           replace hx371_1 := (HB.out.cell (World.block_lt_of_cell? w _ hx371_1)).trans hx371_1
           replace hx371_2 := (HB.out.cell (World.block_lt_of_cell? w _ hx371_2)).trans hx371_2
           replace hx371_3 := (HB.out.cell (World.block_lt_of_cell? w _ hx371_3)).trans hx371_3
           have HR371_3 := Aside0.mk hi371_3
           have HC371_3 := Aside0.mk hl371_3
           clear hi371_3 hl371_3
           replace p371 := eq_true p371
           replace q371 := eq_true q371
           try go_wp2_with (first | ((with_reducible refine gate_dst (N := 6) rfl ?_); (try (refine gate_guard (by rfl) ?_; dsimp only)); refine box_event ?hg (N := 6) ?hd (cs := #[.int .i64 0, .int .i64 0, .string (⟨#[]⟩ : ByteArray), .slice none 0 0]) (t := 54) ?hr ?_; (case hd => rfl); (case hg => rfl); (case hr => first | (go_simp; done) | (go_simp; rfl)); intro gb372 hg w30 hbox hb; have n0_ := Aside0.mk (blk_below (g := gb369) (o := .cells #[.int .i64 a0_0, .int .i64 a0_1, .string a0_2, .slice (some ad371) l0_3.length c0_3] 54 (0, 0)) (by exact bk BK369.out) hb); have n1_ := Aside0.mk (blk_below (g := gb370) (o := .cells #[.int .i64 a1_0, .int .i64 a1_1, .string a1_2, .slice A1_3 l1_3.length c1_3] 54 (0, 0)) (by exact bk BK370.out) hb); have n2_ := Aside0.mk (below_step (by exact bw HB.out) hb); have n3_ := Aside0.mk (hbox); have n4_ := Aside0.mk ((by rw [hg]; exact (below_size (by exact bw HB.out)) : w.heap.size ≤ gb372)); have n5_ := Aside0.mk ((by rw [hg]; exact (below_size (by exact bw HB.out)) : w.heap.size ≤ gb372)); have n6_ := Aside0.mk ((by rw [hg]; exact Nat.ne_of_lt (blk_lt (g := gb369) (o := .cells #[.int .i64 a0_0, .int .i64 a0_1, .string a0_2, .slice (some ad371) l0_3.length c0_3] 54 (0, 0)) (by exact bk BK369.out)) : gb369 ≠ gb372)); have n7_ := Aside0.mk ((by rw [hg]; exact Nat.ne_of_gt (blk_lt (g := gb369) (o := .cells #[.int .i64 a0_0, .int .i64 a0_1, .string a0_2, .slice (some ad371) l0_3.length c0_3] 54 (0, 0)) (by exact bk BK369.out)) : gb372 ≠ gb369)); have n8_ := Aside0.mk ((by rw [hg]; exact Nat.ne_of_lt (blk_lt (g := gb370) (o := .cells #[.int .i64 a1_0, .int .i64 a1_1, .string a1_2, .slice A1_3 l1_3.length c1_3] 54 (0, 0)) (by exact bk BK370.out)) : gb370 ≠ gb372)); have n9_ := Aside0.mk ((by rw [hg]; exact Nat.ne_of_gt (blk_lt (g := gb370) (o := .cells #[.int .i64 a1_0, .int .i64 a1_1, .string a1_2, .slice A1_3 l1_3.length c1_3] 54 (0, 0)) (by exact bk BK370.out)) : gb372 ≠ gb370)); clear BK369; clear BK370; clear HB; have BK369 := n0_; have BK370 := n1_; have HB := n2_; have BK372 := n3_; have GW372 := n4_; have GE372 := n5_; have NB369_372 := n6_; have NB372_369 := n7_; have NB370_372 := n8_; have NB372_370 := n9_; clear n0_ n1_ n2_ n3_ n4_ n5_ n6_ n7_ n8_ n9_; clear hb hbox hg; have hnb31 := NB372_369.out; have hnc31 := NB369_372.out; have hnb32 := NB372_370.out; have hnc32 := NB370_372.out; have hcz33_0 : w30.cell? ⟨gb372, 0, none⟩ = some (.int .i64 0) := (blk_cell BK372.out 0).trans rfl; have hcz33_1 : w30.cell? ⟨gb372, 1, none⟩ = some (.int .i64 0) := (blk_cell BK372.out 1).trans rfl; have hcz33_2 : w30.cell? ⟨gb372, 2, none⟩ = some (.string (⟨#[]⟩ : ByteArray)) := (blk_cell BK372.out 2).trans rfl; have hcz33_3 : w30.cell? ⟨gb372, 3, none⟩ = some (.slice none 0 0) := (blk_cell BK372.out 3).trans rfl; have hfz33_0 := blk_frozen BK372.out 0; have hfz33_1 := blk_frozen BK372.out 1; have hfz33_2 := blk_frozen BK372.out 2; have hfz33_3 := blk_frozen BK372.out 3))
           have n0_ : Aside0 (((((w30.setCell ⟨gb372, 0, none⟩ (.int .i64 ((rd_T54 l0_3 x38_2).f0))).setCell ⟨gb372, 1, none⟩ (.int .i64 ((rd_T54 l0_3 x38_2).f1))).setCell ⟨gb372, 2, none⟩ (.string ((rd_T54 l0_3 x38_2).f2))).setCell ⟨gb372, 3, none⟩ (.slice A371_3 ((rd_T54 l0_3 x38_2).f3).length c371_3)).heap[gb369]? = some (.cells #[.int .i64 a0_0, .int .i64 a0_1, .string a0_2, .slice (some ad371) l0_3.length c0_3] 54 (0, 0))) := ⟨by (with_reducible repeat (first | refine blk_drewN ?_ _ | refine blk_drew ?_ | refine blk_alloc ?_ _)); refine blk_far ?_ NB369_372.out _; (with_reducible repeat (first | refine blk_drewN ?_ _ | refine blk_drew ?_ | refine blk_alloc ?_ _)); refine blk_far ?_ NB369_372.out _; (with_reducible repeat (first | refine blk_drewN ?_ _ | refine blk_drew ?_ | refine blk_alloc ?_ _)); refine blk_far ?_ NB369_372.out _; (with_reducible repeat (first | refine blk_drewN ?_ _ | refine blk_drew ?_ | refine blk_alloc ?_ _)); refine blk_far ?_ NB369_372.out _; exact bk BK369.out⟩
           have n1_ : Aside0 (((((w30.setCell ⟨gb372, 0, none⟩ (.int .i64 ((rd_T54 l0_3 x38_2).f0))).setCell ⟨gb372, 1, none⟩ (.int .i64 ((rd_T54 l0_3 x38_2).f1))).setCell ⟨gb372, 2, none⟩ (.string ((rd_T54 l0_3 x38_2).f2))).setCell ⟨gb372, 3, none⟩ (.slice A371_3 ((rd_T54 l0_3 x38_2).f3).length c371_3)).heap[gb370]? = some (.cells #[.int .i64 a1_0, .int .i64 a1_1, .string a1_2, .slice A1_3 l1_3.length c1_3] 54 (0, 0))) := ⟨by (with_reducible repeat (first | refine blk_drewN ?_ _ | refine blk_drew ?_ | refine blk_alloc ?_ _)); refine blk_far ?_ NB370_372.out _; (with_reducible repeat (first | refine blk_drewN ?_ _ | refine blk_drew ?_ | refine blk_alloc ?_ _)); refine blk_far ?_ NB370_372.out _; (with_reducible repeat (first | refine blk_drewN ?_ _ | refine blk_drew ?_ | refine blk_alloc ?_ _)); refine blk_far ?_ NB370_372.out _; (with_reducible repeat (first | refine blk_drewN ?_ _ | refine blk_drew ?_ | refine blk_alloc ?_ _)); refine blk_far ?_ NB370_372.out _; exact bk BK370.out⟩
           have n2_ : Aside0 (((((w30.setCell ⟨gb372, 0, none⟩ (.int .i64 ((rd_T54 l0_3 x38_2).f0))).setCell ⟨gb372, 1, none⟩ (.int .i64 ((rd_T54 l0_3 x38_2).f1))).setCell ⟨gb372, 2, none⟩ (.string ((rd_T54 l0_3 x38_2).f2))).setCell ⟨gb372, 3, none⟩ (.slice A371_3 ((rd_T54 l0_3 x38_2).f3).length c371_3)).heap[gb372]? = some (.cells #[.int .i64 ((rd_T54 l0_3 x38_2).f0), .int .i64 ((rd_T54 l0_3 x38_2).f1), .string ((rd_T54 l0_3 x38_2).f2), .slice A371_3 ((rd_T54 l0_3 x38_2).f3).length c371_3] 54 (0, 0))) := ⟨by (with_reducible repeat (first | refine blk_drewN ?_ _ | refine blk_drew ?_ | refine blk_alloc ?_ _)); refine blk_put (cs := #[.int .i64 ((rd_T54 l0_3 x38_2).f0), .int .i64 ((rd_T54 l0_3 x38_2).f1), .string ((rd_T54 l0_3 x38_2).f2), .slice none 0 0]) ?_ 3 _ rfl; (with_reducible repeat (first | refine blk_drewN ?_ _ | refine blk_drew ?_ | refine blk_alloc ?_ _)); refine blk_put (cs := #[.int .i64 ((rd_T54 l0_3 x38_2).f0), .int .i64 ((rd_T54 l0_3 x38_2).f1), .string (⟨#[]⟩ : ByteArray), .slice none 0 0]) ?_ 2 _ rfl; (with_reducible repeat (first | refine blk_drewN ?_ _ | refine blk_drew ?_ | refine blk_alloc ?_ _)); refine blk_put (cs := #[.int .i64 ((rd_T54 l0_3 x38_2).f0), .int .i64 0, .string (⟨#[]⟩ : ByteArray), .slice none 0 0]) ?_ 1 _ rfl; (with_reducible repeat (first | refine blk_drewN ?_ _ | refine blk_drew ?_ | refine blk_alloc ?_ _)); refine blk_put (cs := #[.int .i64 0, .int .i64 0, .string (⟨#[]⟩ : ByteArray), .slice none 0 0]) ?_ 0 _ rfl; exact bk BK372.out⟩
           have n3_ : Aside0 (Below w.heap.size w ((((w30.setCell ⟨gb372, 0, none⟩ (.int .i64 ((rd_T54 l0_3 x38_2).f0))).setCell ⟨gb372, 1, none⟩ (.int .i64 ((rd_T54 l0_3 x38_2).f1))).setCell ⟨gb372, 2, none⟩ (.string ((rd_T54 l0_3 x38_2).f2))).setCell ⟨gb372, 3, none⟩ (.slice A371_3 ((rd_T54 l0_3 x38_2).f3).length c371_3))) := ⟨by exact bw HB.out⟩
           (try clear BK369)
           (try clear BK370)
           (try clear BK372)
           (try clear HB)
           generalize ((((w30.setCell ⟨gb372, 0, none⟩ (.int .i64 ((rd_T54 l0_3 x38_2).f0))).setCell ⟨gb372, 1, none⟩ (.int .i64 ((rd_T54 l0_3 x38_2).f1))).setCell ⟨gb372, 2, none⟩ (.string ((rd_T54 l0_3 x38_2).f2))).setCell ⟨gb372, 3, none⟩ (.slice A371_3 ((rd_T54 l0_3 x38_2).f3).length c371_3)) = w34 at n0_ n1_ n2_ n3_ ⊢
           have BK369 := n0_
           have BK370 := n1_
           have BK372 := n2_
           have HB := n3_
           clear n0_ n1_ n2_ n3_
           have n0_ := Aside0.mk (blk_drew BK369.out)
           have n1_ := Aside0.mk (blk_drew BK370.out)
           have n2_ := Aside0.mk (blk_drew BK372.out)
           have n3_ := Aside0.mk (below_drew1 HB.out)
           clear BK369
           clear BK370
           clear BK372
           clear HB
           have BK369 := n0_
           have BK370 := n1_
           have BK372 := n2_
           have HB := n3_
           clear n0_ n1_ n2_ n3_
           have p373 : 0 ≤ (x38_2 : Int) := of_decide_eq_true (by first | (with_reducible assumption) | assumption)
           have q373 : x38_2 < (l1_3.length : Int) := of_decide_eq_true (by first | (with_reducible assumption) | assumption)
           obtain ⟨ad373, A373_3, c373_3, e373, hx373_0, hx373_1, hx373_2, hx373_3, hl373_3, hi373_3⟩ := at_T54 HR1_3.out x38_2 p373 q373
           have hw373_3 := hx373_3
           have hw373_2 := hx373_2
           have hw373_1 := hx373_1
           have hw373_0 := hx373_0
           cases e373
           replace hx373_0 := (HB.out.cell (World.block_lt_of_cell? w _ hx373_0)).trans hx373_0
           replace hx373_1 := (HB.out.cell (World.block_lt_of_cell? w _ hx373_1)).trans hx373_1
           replace hx373_2 := (HB.out.cell (World.block_lt_of_cell? w _ hx373_2)).trans hx373_2
           replace hx373_3 := (HB.out.cell (World.block_lt_of_cell? w _ hx373_3)).trans hx373_3
           have HR373_3 := Aside0.mk hi373_3
           have HC373_3 := Aside0.mk hl373_3
           clear hi373_3 hl373_3
           replace p373 := eq_true p373
           replace q373 := eq_true q373
           refine start_ (n := 8) (S := fun w' => w'.cell? ⟨gb372, 0, none⟩ = some (.int .i64 ((rd_T54 l0_3 x38_2).f0)) ∧ w'.cell? ⟨gb372, 1, none⟩ = some (.int .i64 ((rd_T54 l0_3 x38_2).f1)) ∧ w'.cell? ⟨gb372, 2, none⟩ = some (.string ((rd_T54 l0_3 x38_2).f2)) ∧ w'.cell? ⟨gb372, 3, none⟩ = some (.slice A371_3 ((rd_T54 l0_3 x38_2).f3).length c371_3) ∧ w'.cell? ⟨gb370, 0, none⟩ = some (.int .i64 a1_0) ∧ w'.cell? ⟨gb370, 1, none⟩ = some (.int .i64 a1_1) ∧ w'.cell? ⟨gb370, 2, none⟩ = some (.string a1_2) ∧ w'.cell? ⟨gb370, 3, none⟩ = some (.slice (some ad373) l1_3.length c1_3) ∧ w'.cell? (ad373.add ((x38_2).toNat * 4)) = some (.int .i64 ((rd_T54 l1_3 x38_2).f0)) ∧ w'.cell? ⟨(ad373.add ((x38_2).toNat * 4)).block, (ad373.add ((x38_2).toNat * 4)).off + 1, none⟩ = some (.int .i64 ((rd_T54 l1_3 x38_2).f1)) ∧ w'.cell? ⟨(ad373.add ((x38_2).toNat * 4)).block, (ad373.add ((x38_2).toNat * 4)).off + 2, none⟩ = some (.string ((rd_T54 l1_3 x38_2).f2)) ∧ w'.cell? ⟨(ad373.add ((x38_2).toNat * 4)).block, (ad373.add ((x38_2).toNat * 4)).off + 3, none⟩ = some (.slice A373_3 ((rd_T54 l1_3 x38_2).f3).length c373_3)) (ds := []) #[false, false, false, false, false, false, false, false] (by kernel_rfl) rfl rfl ⟨(blk_cell BK372.out 0).trans rfl, (blk_cell BK372.out 1).trans rfl, (blk_cell BK372.out 2).trans rfl, (blk_cell BK372.out 3).trans rfl, (blk_cell BK370.out 0).trans rfl, (blk_cell BK370.out 1).trans rfl, (blk_cell BK370.out 2).trans rfl, (blk_cell BK370.out 3).trans rfl, ((HB.out.cell (World.block_lt_of_cell? w _ hw373_0)).trans hw373_0), ((HB.out.cell (World.block_lt_of_cell? w _ hw373_1)).trans hw373_1), ((HB.out.cell (World.block_lt_of_cell? w _ hw373_2)).trans hw373_2), ((HB.out.cell (World.block_lt_of_cell? w _ hw373_3)).trans hw373_3)⟩ (fun hHeld => ?_); refine with_tabW impl_SameExpr.tab6 impl_SameExpr.bits6 (fun HT_ HW_ => ?_)
           generalize w34.drew = w35 at BK369 BK370 BK372 HB HR373_3 hx373_0 hx373_1 hx373_2 hx373_3 hHeld ⊢
           refine pure_ (i := 1) (N := some 44) (v := ?_) (a' := ?_) #[false, true, false, false, false, false, false, false] rfl rfl (any_of HT_.out (by kernel_rfl)) (fun _ _ _ h => h) (Or.inl ⟨by rfl, ?_⟩) ?_ ?_
           rotate_left
           ·
            intro w'
            go_simp
            with_reducible rfl
           rotate_left
           ·
            simp only [Act.put, List.setIfInBounds_toArray, List.set_cons_zero, List.set_cons_succ, i64_w, i32_w]
            rfl
           refine pure_ (i := 3) (N := some 46) (v := ?_) (a' := ?_) #[false, true, false, true, false, false, false, false] rfl rfl (any_of HT_.out (by kernel_rfl)) (fun _ _ _ h => h) (Or.inl ⟨by rfl, ?_⟩) ?_ ?_
           rotate_left
           ·
            intro w'
            go_simp
            with_reducible rfl
           rotate_left
           ·
            simp only [Act.put, List.setIfInBounds_toArray, List.set_cons_zero, List.set_cons_succ, i64_w, i32_w]
            rfl
           refine take_ (i := 0) (N := some 43) (v := ?_) (a' := ?_) #[true, true, false, true, false, false, false, false] rfl rfl (take_ofW HT_.out HW_.out (by kernel_rfl)) (fun _ _ _ h => h) (Or.inl ⟨by rfl, ?_⟩) hHeld ?_ ?_
           rotate_left
           ·
            rintro w' ⟨s0, s1, s2, s3, s4, s5, s6, s7, s8, s9, s10, s11⟩
            go_simp
            with_reducible rfl
           rotate_left
           ·
            simp only [Act.put, List.setIfInBounds_toArray, List.set_cons_zero, List.set_cons_succ, i64_w, i32_w]
            rfl
           refine take_ (i := 2) (N := some 45) (v := ?_) (a' := ?_) #[true, true, true, true, false, false, false, false] rfl rfl (take_ofW HT_.out HW_.out (by kernel_rfl)) (fun _ _ _ h => h) (Or.inl ⟨by rfl, ?_⟩) hHeld ?_ ?_
           rotate_left
           ·
            rintro w' ⟨s0, s1, s2, s3, s4, s5, s6, s7, s8, s9, s10, s11⟩
            go_simp
            with_reducible rfl
           rotate_left
           ·
            simp only [Act.put, List.setIfInBounds_toArray, List.set_cons_zero, List.set_cons_succ, i64_w, i32_w]
            rfl
           refine pure_ (i := 4) (N := some 47) (v := ?_) (a' := ?_) #[true, true, true, true, true, false, false, false] rfl rfl (any_of HT_.out (by kernel_rfl)) (fun _ _ _ h => h) (Or.inl ⟨by rfl, ?_⟩) ?_ ?_
           rotate_left
           ·
            intro w'
            go_simp
            with_reducible rfl
           rotate_left
           ·
            simp only [Act.put, List.setIfInBounds_toArray, List.set_cons_zero, List.set_cons_succ, i64_w, i32_w]
            rfl
           refine take_ (i := 5) (N := some 48) (v := ?_) (a' := ?_) #[true, true, true, true, true, true, false, false] rfl rfl (take_ofW HT_.out HW_.out (by kernel_rfl)) (fun _ _ _ h => h) (Or.inl ⟨by rfl, ?_⟩) hHeld ?_ ?_
           rotate_left
           ·
            rintro w' ⟨s0, s1, s2, s3, s4, s5, s6, s7, s8, s9, s10, s11⟩
            go_simp
            with_reducible rfl
           rotate_left
           ·
            simp only [Act.put, List.setIfInBounds_toArray, List.set_cons_zero, List.set_cons_succ, i64_w, i32_w]
            rfl
           refine one_ (i := 6) (N := some 49) #[true, true, true, true, true, true, true, false] rfl rfl (one_of HT_.out (by kernel_rfl)) (by decide) (fun K hK => ?_)
           refine goes_ Try.func35 (by kernel_rfl) rfl #[.agg #[.int .i64 ((rd_T54 l0_3 x38_2).f0), .int .i64 ((rd_T54 l0_3 x38_2).f1), .string ((rd_T54 l0_3 x38_2).f2), .slice A371_3 ((rd_T54 l0_3 x38_2).f3).length c371_3], .agg #[.int .i64 ((rd_T54 l1_3 x38_2).f0), .int .i64 ((rd_T54 l1_3 x38_2).f1), .string ((rd_T54 l1_3 x38_2).f2), .slice A373_3 ((rd_T54 l1_3 x38_2).f3).length c373_3]] (by rfl) rfl rfl (by (try simp only [List.map_toArray, List.map_cons, List.map_nil]); first | done | rfl | (simp only [List.length_drop, List.length_take]; rfl)) ?_
           with_reducible refine (ih k2 (by have := HJ2.out; have := HK2.out; omega) ((rd_T54 l0_3 x38_2).f0) ((rd_T54 l0_3 x38_2).f1) ((rd_T54 l0_3 x38_2).f2) _ _ ((rd_T54 l0_3 x38_2).f3) ((rd_T54 l1_3 x38_2).f0) ((rd_T54 l1_3 x38_2).f1) ((rd_T54 l1_3 x38_2).f2) _ _ ((rd_T54 l1_3 x38_2).f3) true _ ?side1 ?side2 ?side3 ?side4 A28.out).mono ?_
           (case side1 => repeat (first | exact (Kd.C_below HR371_3.out HB.out) | (with_reducible refine Kd.C_alloc ?_ _) | (with_reducible refine Kd.C_drewN ?_ _) | (with_reducible refine Kd.C_drew ?_)))
           (case side2 => exact HC371_3.out)
           (case side3 => repeat (first | exact (Kd.C_below HR373_3.out HB.out) | (with_reducible refine Kd.C_alloc ?_ _) | (with_reducible refine Kd.C_drewN ?_ _) | (with_reducible refine Kd.C_drew ?_)))
           (case side4 => exact HC373_3.out)
           rintro e w36 ⟨rfl, hb⟩
           refine ⟨_, rfl, ?_⟩
           have n0_ := Aside0.mk (blk_below (g := gb369) (o := .cells #[.int .i64 a0_0, .int .i64 a0_1, .string a0_2, .slice (some ad371) l0_3.length c0_3] 54 (0, 0)) (by exact bk BK369.out) hb)
           have n1_ := Aside0.mk (blk_below (g := gb370) (o := .cells #[.int .i64 a1_0, .int .i64 a1_1, .string a1_2, .slice (some ad373) l1_3.length c1_3] 54 (0, 0)) (by exact bk BK370.out) hb)
           have n2_ := Aside0.mk (blk_below (g := gb372) (o := .cells #[.int .i64 ((rd_T54 l0_3 x38_2).f0), .int .i64 ((rd_T54 l0_3 x38_2).f1), .string ((rd_T54 l0_3 x38_2).f2), .slice A371_3 ((rd_T54 l0_3 x38_2).f3).length c371_3] 54 (0, 0)) (by exact bk BK372.out) hb)
           have n3_ := Aside0.mk (below_step (by exact bw HB.out) hb)
           clear BK369
           clear BK370
           clear BK372
           clear HB
           have BK369 := n0_
           have BK370 := n1_
           have BK372 := n2_
           have HB := n3_
           clear n0_ n1_ n2_ n3_
           (try clear hb)
           (try clear hb2)
           (try clear hk)
           (try clear hi)
           refine hK.out _ _ ⟨(blk_cell BK372.out 0).trans rfl, (blk_cell BK372.out 1).trans rfl, (blk_cell BK372.out 2).trans rfl, (blk_cell BK372.out 3).trans rfl, (blk_cell BK370.out 0).trans rfl, (blk_cell BK370.out 1).trans rfl, (blk_cell BK370.out 2).trans rfl, (blk_cell BK370.out 3).trans rfl, ((HB.out.cell (World.block_lt_of_cell? w _ hw373_0)).trans hw373_0), ((HB.out.cell (World.block_lt_of_cell? w _ hw373_1)).trans hw373_1), ((HB.out.cell (World.block_lt_of_cell? w _ hw373_2)).trans hw373_2), ((HB.out.cell (World.block_lt_of_cell? w _ hw373_3)).trans hw373_3)⟩ (fun hHeld => ?_)
           clear hK K
           refine norm_ (a' := ?_) ?_ ?_
           rotate_left
           ·
            show Act.put _ (some 49) _ = _
            simp only [Act.put, List.setIfInBounds_toArray, List.set_cons_zero, List.set_cons_succ, i64_w, i32_w]
            rfl
           refine pure_ (i := 7) (N := some 50) (v := ?_) (a' := ?_) #[true, true, true, true, true, true, true, true] rfl rfl (any_of HT_.out (by kernel_rfl)) (fun _ _ _ h => h) (Or.inl ⟨by rfl, ?_⟩) ?_ ?_
           rotate_left
           ·
            intro w'
            go_simp
            with_reducible rfl
           rotate_left
           ·
            simp only [Act.put, List.setIfInBounds_toArray, List.set_cons_zero, List.set_cons_succ, i64_w, i32_w]
            rfl
           refine done_ (done_of HT_.out (by kernel_rfl)) ?_
           try go_wp2
           go_roundg k2
           case measure => have := HJ2.out; have := HK2.out; omega
           case rel => exact ⟨(wrap64 (x38_2 + 1)), (by first | rfl | (simp; done) | (simp [*]; done)), H', ⟨by have := HJ2.out; have := HK2.out; omega⟩, ⟨by exact bk BK369.out⟩, ⟨by exact bk BK370.out⟩, ⟨by exact bw HB.out⟩⟩
          ·
           replace c29 := Bool.eq_false_iff.mpr c29
           subst c29
           have H1 : (some false) = some r := by rw [if_neg (show ¬ (false = true) by decide)] at H; exact H
           clear H
           have H := H1
           clear H1
           obtain rfl := Option.some.inj H
           have p371 : 0 ≤ (x38_2 : Int) := of_decide_eq_true (by first | (with_reducible assumption) | assumption)
           have q371 : x38_2 < (l0_3.length : Int) := of_decide_eq_true (by first | (with_reducible assumption) | assumption)
           obtain ⟨ad371, A371_3, c371_3, e371, hx371_0, hx371_1, hx371_2, hx371_3, hl371_3, hi371_3⟩ := at_T54 HR0_3.out x38_2 p371 q371
           cases e371
           replace hx371_0 := (HB.out.cell (World.block_lt_of_cell? w _ hx371_0)).trans hx371_0
           replace hx371_1 := (HB.out.cell (World.block_lt_of_cell? w _ hx371_1)).trans hx371_1
           replace hx371_2 := (HB.out.cell (World.block_lt_of_cell? w _ hx371_2)).trans hx371_2
           replace hx371_3 := (HB.out.cell (World.block_lt_of_cell? w _ hx371_3)).trans hx371_3
           have HR371_3 := Aside0.mk hi371_3
           have HC371_3 := Aside0.mk hl371_3
           clear hi371_3 hl371_3
           replace p371 := eq_true p371
           replace q371 := eq_true q371
           try go_wp2_with (first | ((with_reducible refine gate_dst (N := 6) rfl ?_); (try (refine gate_guard (by rfl) ?_; dsimp only)); refine box_event ?hg (N := 6) ?hd (cs := #[.int .i64 0, .int .i64 0, .string (⟨#[]⟩ : ByteArray), .slice none 0 0]) (t := 54) ?hr ?_; (case hd => rfl); (case hg => rfl); (case hr => first | (go_simp; done) | (go_simp; rfl)); intro gb372 hg w37 hbox hb; have n0_ := Aside0.mk (blk_below (g := gb369) (o := .cells #[.int .i64 a0_0, .int .i64 a0_1, .string a0_2, .slice (some ad371) l0_3.length c0_3] 54 (0, 0)) (by exact bk BK369.out) hb); have n1_ := Aside0.mk (blk_below (g := gb370) (o := .cells #[.int .i64 a1_0, .int .i64 a1_1, .string a1_2, .slice A1_3 l1_3.length c1_3] 54 (0, 0)) (by exact bk BK370.out) hb); have n2_ := Aside0.mk (below_step (by exact bw HB.out) hb); have n3_ := Aside0.mk (hbox); have n4_ := Aside0.mk ((by rw [hg]; exact (below_size (by exact bw HB.out)) : w.heap.size ≤ gb372)); have n5_ := Aside0.mk ((by rw [hg]; exact (below_size (by exact bw HB.out)) : w.heap.size ≤ gb372)); have n6_ := Aside0.mk ((by rw [hg]; exact Nat.ne_of_lt (blk_lt (g := gb369) (o := .cells #[.int .i64 a0_0, .int .i64 a0_1, .string a0_2, .slice (some ad371) l0_3.length c0_3] 54 (0, 0)) (by exact bk BK369.out)) : gb369 ≠ gb372)); have n7_ := Aside0.mk ((by rw [hg]; exact Nat.ne_of_gt (blk_lt (g := gb369) (o := .cells #[.int .i64 a0_0, .int .i64 a0_1, .string a0_2, .slice (some ad371) l0_3.length c0_3] 54 (0, 0)) (by exact bk BK369.out)) : gb372 ≠ gb369)); have n8_ := Aside0.mk ((by rw [hg]; exact Nat.ne_of_lt (blk_lt (g := gb370) (o := .cells #[.int .i64 a1_0, .int .i64 a1_1, .string a1_2, .slice A1_3 l1_3.length c1_3] 54 (0, 0)) (by exact bk BK370.out)) : gb370 ≠ gb372)); have n9_ := Aside0.mk ((by rw [hg]; exact Nat.ne_of_gt (blk_lt (g := gb370) (o := .cells #[.int .i64 a1_0, .int .i64 a1_1, .string a1_2, .slice A1_3 l1_3.length c1_3] 54 (0, 0)) (by exact bk BK370.out)) : gb372 ≠ gb370)); clear BK369; clear BK370; clear HB; have BK369 := n0_; have BK370 := n1_; have HB := n2_; have BK372 := n3_; have GW372 := n4_; have GE372 := n5_; have NB369_372 := n6_; have NB372_369 := n7_; have NB370_372 := n8_; have NB372_370 := n9_; clear n0_ n1_ n2_ n3_ n4_ n5_ n6_ n7_ n8_ n9_; clear hb hbox hg; have hnb38 := NB372_369.out; have hnc38 := NB369_372.out; have hnb39 := NB372_370.out; have hnc39 := NB370_372.out; have hcz40_0 : w37.cell? ⟨gb372, 0, none⟩ = some (.int .i64 0) := (blk_cell BK372.out 0).trans rfl; have hcz40_1 : w37.cell? ⟨gb372, 1, none⟩ = some (.int .i64 0) := (blk_cell BK372.out 1).trans rfl; have hcz40_2 : w37.cell? ⟨gb372, 2, none⟩ = some (.string (⟨#[]⟩ : ByteArray)) := (blk_cell BK372.out 2).trans rfl; have hcz40_3 : w37.cell? ⟨gb372, 3, none⟩ = some (.slice none 0 0) := (blk_cell BK372.out 3).trans rfl; have hfz40_0 := blk_frozen BK372.out 0; have hfz40_1 := blk_frozen BK372.out 1; have hfz40_2 := blk_frozen BK372.out 2; have hfz40_3 := blk_frozen BK372.out 3))
           have n0_ : Aside0 (((((w37.setCell ⟨gb372, 0, none⟩ (.int .i64 ((rd_T54 l0_3 x38_2).f0))).setCell ⟨gb372, 1, none⟩ (.int .i64 ((rd_T54 l0_3 x38_2).f1))).setCell ⟨gb372, 2, none⟩ (.string ((rd_T54 l0_3 x38_2).f2))).setCell ⟨gb372, 3, none⟩ (.slice A371_3 ((rd_T54 l0_3 x38_2).f3).length c371_3)).heap[gb369]? = some (.cells #[.int .i64 a0_0, .int .i64 a0_1, .string a0_2, .slice (some ad371) l0_3.length c0_3] 54 (0, 0))) := ⟨by (with_reducible repeat (first | refine blk_drewN ?_ _ | refine blk_drew ?_ | refine blk_alloc ?_ _)); refine blk_far ?_ NB369_372.out _; (with_reducible repeat (first | refine blk_drewN ?_ _ | refine blk_drew ?_ | refine blk_alloc ?_ _)); refine blk_far ?_ NB369_372.out _; (with_reducible repeat (first | refine blk_drewN ?_ _ | refine blk_drew ?_ | refine blk_alloc ?_ _)); refine blk_far ?_ NB369_372.out _; (with_reducible repeat (first | refine blk_drewN ?_ _ | refine blk_drew ?_ | refine blk_alloc ?_ _)); refine blk_far ?_ NB369_372.out _; exact bk BK369.out⟩
           have n1_ : Aside0 (((((w37.setCell ⟨gb372, 0, none⟩ (.int .i64 ((rd_T54 l0_3 x38_2).f0))).setCell ⟨gb372, 1, none⟩ (.int .i64 ((rd_T54 l0_3 x38_2).f1))).setCell ⟨gb372, 2, none⟩ (.string ((rd_T54 l0_3 x38_2).f2))).setCell ⟨gb372, 3, none⟩ (.slice A371_3 ((rd_T54 l0_3 x38_2).f3).length c371_3)).heap[gb370]? = some (.cells #[.int .i64 a1_0, .int .i64 a1_1, .string a1_2, .slice A1_3 l1_3.length c1_3] 54 (0, 0))) := ⟨by (with_reducible repeat (first | refine blk_drewN ?_ _ | refine blk_drew ?_ | refine blk_alloc ?_ _)); refine blk_far ?_ NB370_372.out _; (with_reducible repeat (first | refine blk_drewN ?_ _ | refine blk_drew ?_ | refine blk_alloc ?_ _)); refine blk_far ?_ NB370_372.out _; (with_reducible repeat (first | refine blk_drewN ?_ _ | refine blk_drew ?_ | refine blk_alloc ?_ _)); refine blk_far ?_ NB370_372.out _; (with_reducible repeat (first | refine blk_drewN ?_ _ | refine blk_drew ?_ | refine blk_alloc ?_ _)); refine blk_far ?_ NB370_372.out _; exact bk BK370.out⟩
           have n2_ : Aside0 (((((w37.setCell ⟨gb372, 0, none⟩ (.int .i64 ((rd_T54 l0_3 x38_2).f0))).setCell ⟨gb372, 1, none⟩ (.int .i64 ((rd_T54 l0_3 x38_2).f1))).setCell ⟨gb372, 2, none⟩ (.string ((rd_T54 l0_3 x38_2).f2))).setCell ⟨gb372, 3, none⟩ (.slice A371_3 ((rd_T54 l0_3 x38_2).f3).length c371_3)).heap[gb372]? = some (.cells #[.int .i64 ((rd_T54 l0_3 x38_2).f0), .int .i64 ((rd_T54 l0_3 x38_2).f1), .string ((rd_T54 l0_3 x38_2).f2), .slice A371_3 ((rd_T54 l0_3 x38_2).f3).length c371_3] 54 (0, 0))) := ⟨by (with_reducible repeat (first | refine blk_drewN ?_ _ | refine blk_drew ?_ | refine blk_alloc ?_ _)); refine blk_put (cs := #[.int .i64 ((rd_T54 l0_3 x38_2).f0), .int .i64 ((rd_T54 l0_3 x38_2).f1), .string ((rd_T54 l0_3 x38_2).f2), .slice none 0 0]) ?_ 3 _ rfl; (with_reducible repeat (first | refine blk_drewN ?_ _ | refine blk_drew ?_ | refine blk_alloc ?_ _)); refine blk_put (cs := #[.int .i64 ((rd_T54 l0_3 x38_2).f0), .int .i64 ((rd_T54 l0_3 x38_2).f1), .string (⟨#[]⟩ : ByteArray), .slice none 0 0]) ?_ 2 _ rfl; (with_reducible repeat (first | refine blk_drewN ?_ _ | refine blk_drew ?_ | refine blk_alloc ?_ _)); refine blk_put (cs := #[.int .i64 ((rd_T54 l0_3 x38_2).f0), .int .i64 0, .string (⟨#[]⟩ : ByteArray), .slice none 0 0]) ?_ 1 _ rfl; (with_reducible repeat (first | refine blk_drewN ?_ _ | refine blk_drew ?_ | refine blk_alloc ?_ _)); refine blk_put (cs := #[.int .i64 0, .int .i64 0, .string (⟨#[]⟩ : ByteArray), .slice none 0 0]) ?_ 0 _ rfl; exact bk BK372.out⟩
           have n3_ : Aside0 (Below w.heap.size w ((((w37.setCell ⟨gb372, 0, none⟩ (.int .i64 ((rd_T54 l0_3 x38_2).f0))).setCell ⟨gb372, 1, none⟩ (.int .i64 ((rd_T54 l0_3 x38_2).f1))).setCell ⟨gb372, 2, none⟩ (.string ((rd_T54 l0_3 x38_2).f2))).setCell ⟨gb372, 3, none⟩ (.slice A371_3 ((rd_T54 l0_3 x38_2).f3).length c371_3))) := ⟨by exact bw HB.out⟩
           (try clear BK369)
           (try clear BK370)
           (try clear BK372)
           (try clear HB)
           generalize ((((w37.setCell ⟨gb372, 0, none⟩ (.int .i64 ((rd_T54 l0_3 x38_2).f0))).setCell ⟨gb372, 1, none⟩ (.int .i64 ((rd_T54 l0_3 x38_2).f1))).setCell ⟨gb372, 2, none⟩ (.string ((rd_T54 l0_3 x38_2).f2))).setCell ⟨gb372, 3, none⟩ (.slice A371_3 ((rd_T54 l0_3 x38_2).f3).length c371_3)) = w41 at n0_ n1_ n2_ n3_ ⊢
           have BK369 := n0_
           have BK370 := n1_
           have BK372 := n2_
           have HB := n3_
           clear n0_ n1_ n2_ n3_
           have n0_ := Aside0.mk (blk_drew BK369.out)
           have n1_ := Aside0.mk (blk_drew BK370.out)
           have n2_ := Aside0.mk (blk_drew BK372.out)
           have n3_ := Aside0.mk (below_drew1 HB.out)
           clear BK369
           clear BK370
           clear BK372
           clear HB
           have BK369 := n0_
           have BK370 := n1_
           have BK372 := n2_
           have HB := n3_
           clear n0_ n1_ n2_ n3_
           have p373 : 0 ≤ (x38_2 : Int) := of_decide_eq_true (by first | (with_reducible assumption) | assumption)
           have q373 : x38_2 < (l1_3.length : Int) := of_decide_eq_true (by first | (with_reducible assumption) | assumption)
           obtain ⟨ad373, A373_3, c373_3, e373, hx373_0, hx373_1, hx373_2, hx373_3, hl373_3, hi373_3⟩ := at_T54 HR1_3.out x38_2 p373 q373
           have hw373_3 := hx373_3
           have hw373_2 := hx373_2
           have hw373_1 := hx373_1
           have hw373_0 := hx373_0
           cases e373
           replace hx373_0 := (HB.out.cell (World.block_lt_of_cell? w _ hx373_0)).trans hx373_0
           replace hx373_1 := (HB.out.cell (World.block_lt_of_cell? w _ hx373_1)).trans hx373_1
           replace hx373_2 := (HB.out.cell (World.block_lt_of_cell? w _ hx373_2)).trans hx373_2
           replace hx373_3 := (HB.out.cell (World.block_lt_of_cell? w _ hx373_3)).trans hx373_3
           have HR373_3 := Aside0.mk hi373_3
           have HC373_3 := Aside0.mk hl373_3
           clear hi373_3 hl373_3
           replace p373 := eq_true p373
           replace q373 := eq_true q373
           refine start_ (n := 8) (S := fun w' => w'.cell? ⟨gb372, 0, none⟩ = some (.int .i64 ((rd_T54 l0_3 x38_2).f0)) ∧ w'.cell? ⟨gb372, 1, none⟩ = some (.int .i64 ((rd_T54 l0_3 x38_2).f1)) ∧ w'.cell? ⟨gb372, 2, none⟩ = some (.string ((rd_T54 l0_3 x38_2).f2)) ∧ w'.cell? ⟨gb372, 3, none⟩ = some (.slice A371_3 ((rd_T54 l0_3 x38_2).f3).length c371_3) ∧ w'.cell? ⟨gb370, 0, none⟩ = some (.int .i64 a1_0) ∧ w'.cell? ⟨gb370, 1, none⟩ = some (.int .i64 a1_1) ∧ w'.cell? ⟨gb370, 2, none⟩ = some (.string a1_2) ∧ w'.cell? ⟨gb370, 3, none⟩ = some (.slice (some ad373) l1_3.length c1_3) ∧ w'.cell? (ad373.add ((x38_2).toNat * 4)) = some (.int .i64 ((rd_T54 l1_3 x38_2).f0)) ∧ w'.cell? ⟨(ad373.add ((x38_2).toNat * 4)).block, (ad373.add ((x38_2).toNat * 4)).off + 1, none⟩ = some (.int .i64 ((rd_T54 l1_3 x38_2).f1)) ∧ w'.cell? ⟨(ad373.add ((x38_2).toNat * 4)).block, (ad373.add ((x38_2).toNat * 4)).off + 2, none⟩ = some (.string ((rd_T54 l1_3 x38_2).f2)) ∧ w'.cell? ⟨(ad373.add ((x38_2).toNat * 4)).block, (ad373.add ((x38_2).toNat * 4)).off + 3, none⟩ = some (.slice A373_3 ((rd_T54 l1_3 x38_2).f3).length c373_3)) (ds := []) #[false, false, false, false, false, false, false, false] (by kernel_rfl) rfl rfl ⟨(blk_cell BK372.out 0).trans rfl, (blk_cell BK372.out 1).trans rfl, (blk_cell BK372.out 2).trans rfl, (blk_cell BK372.out 3).trans rfl, (blk_cell BK370.out 0).trans rfl, (blk_cell BK370.out 1).trans rfl, (blk_cell BK370.out 2).trans rfl, (blk_cell BK370.out 3).trans rfl, ((HB.out.cell (World.block_lt_of_cell? w _ hw373_0)).trans hw373_0), ((HB.out.cell (World.block_lt_of_cell? w _ hw373_1)).trans hw373_1), ((HB.out.cell (World.block_lt_of_cell? w _ hw373_2)).trans hw373_2), ((HB.out.cell (World.block_lt_of_cell? w _ hw373_3)).trans hw373_3)⟩ (fun hHeld => ?_); refine with_tabW impl_SameExpr.tab6 impl_SameExpr.bits6 (fun HT_ HW_ => ?_)
           generalize w41.drew = w42 at BK369 BK370 BK372 HB HR373_3 hx373_0 hx373_1 hx373_2 hx373_3 hHeld ⊢
           refine pure_ (i := 1) (N := some 44) (v := ?_) (a' := ?_) #[false, true, false, false, false, false, false, false] rfl rfl (any_of HT_.out (by kernel_rfl)) (fun _ _ _ h => h) (Or.inl ⟨by rfl, ?_⟩) ?_ ?_
           rotate_left
           ·
            intro w'
            go_simp
            with_reducible rfl
           rotate_left
           ·
            simp only [Act.put, List.setIfInBounds_toArray, List.set_cons_zero, List.set_cons_succ, i64_w, i32_w]
            rfl
           refine pure_ (i := 3) (N := some 46) (v := ?_) (a' := ?_) #[false, true, false, true, false, false, false, false] rfl rfl (any_of HT_.out (by kernel_rfl)) (fun _ _ _ h => h) (Or.inl ⟨by rfl, ?_⟩) ?_ ?_
           rotate_left
           ·
            intro w'
            go_simp
            with_reducible rfl
           rotate_left
           ·
            simp only [Act.put, List.setIfInBounds_toArray, List.set_cons_zero, List.set_cons_succ, i64_w, i32_w]
            rfl
           refine take_ (i := 0) (N := some 43) (v := ?_) (a' := ?_) #[true, true, false, true, false, false, false, false] rfl rfl (take_ofW HT_.out HW_.out (by kernel_rfl)) (fun _ _ _ h => h) (Or.inl ⟨by rfl, ?_⟩) hHeld ?_ ?_
           rotate_left
           ·
            rintro w' ⟨s0, s1, s2, s3, s4, s5, s6, s7, s8, s9, s10, s11⟩
            go_simp
            with_reducible rfl
           rotate_left
           ·
            simp only [Act.put, List.setIfInBounds_toArray, List.set_cons_zero, List.set_cons_succ, i64_w, i32_w]
            rfl
           refine take_ (i := 2) (N := some 45) (v := ?_) (a' := ?_) #[true, true, true, true, false, false, false, false] rfl rfl (take_ofW HT_.out HW_.out (by kernel_rfl)) (fun _ _ _ h => h) (Or.inl ⟨by rfl, ?_⟩) hHeld ?_ ?_
           rotate_left
           ·
            rintro w' ⟨s0, s1, s2, s3, s4, s5, s6, s7, s8, s9, s10, s11⟩
            go_simp
            with_reducible rfl
           rotate_left
           ·
            simp only [Act.put, List.setIfInBounds_toArray, List.set_cons_zero, List.set_cons_succ, i64_w, i32_w]
            rfl
           refine pure_ (i := 4) (N := some 47) (v := ?_) (a' := ?_) #[true, true, true, true, true, false, false, false] rfl rfl (any_of HT_.out (by kernel_rfl)) (fun _ _ _ h => h) (Or.inl ⟨by rfl, ?_⟩) ?_ ?_
           rotate_left
           ·
            intro w'
            go_simp
            with_reducible rfl
           rotate_left
           ·
            simp only [Act.put, List.setIfInBounds_toArray, List.set_cons_zero, List.set_cons_succ, i64_w, i32_w]
            rfl
           refine take_ (i := 5) (N := some 48) (v := ?_) (a' := ?_) #[true, true, true, true, true, true, false, false] rfl rfl (take_ofW HT_.out HW_.out (by kernel_rfl)) (fun _ _ _ h => h) (Or.inl ⟨by rfl, ?_⟩) hHeld ?_ ?_
           rotate_left
           ·
            rintro w' ⟨s0, s1, s2, s3, s4, s5, s6, s7, s8, s9, s10, s11⟩
            go_simp
            with_reducible rfl
           rotate_left
           ·
            simp only [Act.put, List.setIfInBounds_toArray, List.set_cons_zero, List.set_cons_succ, i64_w, i32_w]
            rfl
           refine one_ (i := 6) (N := some 49) #[true, true, true, true, true, true, true, false] rfl rfl (one_of HT_.out (by kernel_rfl)) (by decide) (fun K hK => ?_)
           refine goes_ Try.func35 (by kernel_rfl) rfl #[.agg #[.int .i64 ((rd_T54 l0_3 x38_2).f0), .int .i64 ((rd_T54 l0_3 x38_2).f1), .string ((rd_T54 l0_3 x38_2).f2), .slice A371_3 ((rd_T54 l0_3 x38_2).f3).length c371_3], .agg #[.int .i64 ((rd_T54 l1_3 x38_2).f0), .int .i64 ((rd_T54 l1_3 x38_2).f1), .string ((rd_T54 l1_3 x38_2).f2), .slice A373_3 ((rd_T54 l1_3 x38_2).f3).length c373_3]] (by rfl) rfl rfl (by (try simp only [List.map_toArray, List.map_cons, List.map_nil]); first | done | rfl | (simp only [List.length_drop, List.length_take]; rfl)) ?_
           with_reducible refine (ih k2 (by have := HJ2.out; have := HK2.out; omega) ((rd_T54 l0_3 x38_2).f0) ((rd_T54 l0_3 x38_2).f1) ((rd_T54 l0_3 x38_2).f2) _ _ ((rd_T54 l0_3 x38_2).f3) ((rd_T54 l1_3 x38_2).f0) ((rd_T54 l1_3 x38_2).f1) ((rd_T54 l1_3 x38_2).f2) _ _ ((rd_T54 l1_3 x38_2).f3) false _ ?side1 ?side2 ?side3 ?side4 A28.out).mono ?_
           (case side1 => repeat (first | exact (Kd.C_below HR371_3.out HB.out) | (with_reducible refine Kd.C_alloc ?_ _) | (with_reducible refine Kd.C_drewN ?_ _) | (with_reducible refine Kd.C_drew ?_)))
           (case side2 => exact HC371_3.out)
           (case side3 => repeat (first | exact (Kd.C_below HR373_3.out HB.out) | (with_reducible refine Kd.C_alloc ?_ _) | (with_reducible refine Kd.C_drewN ?_ _) | (with_reducible refine Kd.C_drew ?_)))
           (case side4 => exact HC373_3.out)
           rintro e w43 ⟨rfl, hb⟩
           refine ⟨_, rfl, ?_⟩
           have n0_ := Aside0.mk (blk_below (g := gb369) (o := .cells #[.int .i64 a0_0, .int .i64 a0_1, .string a0_2, .slice (some ad371) l0_3.length c0_3] 54 (0, 0)) (by exact bk BK369.out) hb)
           have n1_ := Aside0.mk (blk_below (g := gb370) (o := .cells #[.int .i64 a1_0, .int .i64 a1_1, .string a1_2, .slice (some ad373) l1_3.length c1_3] 54 (0, 0)) (by exact bk BK370.out) hb)
           have n2_ := Aside0.mk (blk_below (g := gb372) (o := .cells #[.int .i64 ((rd_T54 l0_3 x38_2).f0), .int .i64 ((rd_T54 l0_3 x38_2).f1), .string ((rd_T54 l0_3 x38_2).f2), .slice A371_3 ((rd_T54 l0_3 x38_2).f3).length c371_3] 54 (0, 0)) (by exact bk BK372.out) hb)
           have n3_ := Aside0.mk (below_step (by exact bw HB.out) hb)
           clear BK369
           clear BK370
           clear BK372
           clear HB
           have BK369 := n0_
           have BK370 := n1_
           have BK372 := n2_
           have HB := n3_
           clear n0_ n1_ n2_ n3_
           (try clear hb)
           (try clear hb2)
           (try clear hk)
           (try clear hi)
           refine hK.out _ _ ⟨(blk_cell BK372.out 0).trans rfl, (blk_cell BK372.out 1).trans rfl, (blk_cell BK372.out 2).trans rfl, (blk_cell BK372.out 3).trans rfl, (blk_cell BK370.out 0).trans rfl, (blk_cell BK370.out 1).trans rfl, (blk_cell BK370.out 2).trans rfl, (blk_cell BK370.out 3).trans rfl, ((HB.out.cell (World.block_lt_of_cell? w _ hw373_0)).trans hw373_0), ((HB.out.cell (World.block_lt_of_cell? w _ hw373_1)).trans hw373_1), ((HB.out.cell (World.block_lt_of_cell? w _ hw373_2)).trans hw373_2), ((HB.out.cell (World.block_lt_of_cell? w _ hw373_3)).trans hw373_3)⟩ (fun hHeld => ?_)
           clear hK K
           refine norm_ (a' := ?_) ?_ ?_
           rotate_left
           ·
            show Act.put _ (some 49) _ = _
            simp only [Act.put, List.setIfInBounds_toArray, List.set_cons_zero, List.set_cons_succ, i64_w, i32_w]
            rfl
           refine pure_ (i := 7) (N := some 50) (v := ?_) (a' := ?_) #[true, true, true, true, true, true, true, true] rfl rfl (any_of HT_.out (by kernel_rfl)) (fun _ _ _ h => h) (Or.inl ⟨by rfl, ?_⟩) ?_ ?_
           rotate_left
           ·
            intro w'
            go_simp
            with_reducible rfl
           rotate_left
           ·
            simp only [Act.put, List.setIfInBounds_toArray, List.set_cons_zero, List.set_cons_succ, i64_w, i32_w]
            rfl
           refine done_ (done_of HT_.out (by kernel_rfl)) ?_
           try go_wp2
           go_ret
           exact ⟨by first | rfl | (simp [errW_none, errW_some] <;> rfl) | (simp [*, errW_none, errW_some] <;> rfl), by exact bw HB.out⟩
         ·
          rw [if_neg c27] at H
          exact absurd H (by simp)
        ·
         rw [if_neg c26] at H
         exact absurd H (by simp)
       ·
        rw [if_neg c25] at H
        exact absurd H (by simp)
      ·
       rw [if_neg c24] at H
       have c24b0 : decide (x38_2 < (l0_3.length : Int)) = false := decide_eq_false c24
       clear c24
       obtain rfl := Option.some.inj H
       go_wp2
       go_ret
       exact ⟨by first | rfl | (simp [errW_none, errW_some] <;> rfl) | (simp [*, errW_none, errW_some] <;> rfl), by exact bw HB.out⟩

end Go.Proofs.Ytefgbocbhohkeaa.P
