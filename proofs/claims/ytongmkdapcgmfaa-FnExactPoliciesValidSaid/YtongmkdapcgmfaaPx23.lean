-- Written by a program of this session (wip/tool).
import Derived.Test.YtongmkdapcgmfaaPx0
namespace Go.Proofs.Ytongmkdapcgmfaa.P
open Go.RowKit Go.Proofs.YtongmkdapcgmfaaW.PrintWords Go.Proofs.YtongmkdapcgmfaaW.PrintLast Go.Proofs.YtongmkdapcgmfaaW.PrintMore
attribute [local go_sem] max2_int min2_int max_two min_two max_three min_three max_four min_four   -- for this text's walks alone
set_option linter.unusedVariables false
set_option linter.unusedSimpArgs false

/-! ### spec_l4Size: function 78 -/
mutual
def spec_l4Size.l0 : Nat → Int → Int → Int → Int → ByteArray → List (S25) → Option (Int)
 | 0, _, _, _, _, _, _ => none
 | k + 1, x3, x4, x482000, x482001, x482002, x482003 => if x4 < (x482003.length : Int) then (if 0 ≤ x4 then ((spec_l4Size.f k ((rd_T25 x482003 x4).f0) ((rd_T25 x482003 x4).f1) ((rd_T25 x482003 x4).f2) ((rd_T25 x482003 x4).f3)).bind fun t483 => (spec_l4Size.l0 k (wrap64 (x3 + t483)) (wrap64 (x4 + 1)) x482000 x482001 x482002 x482003)) else (none)) else (some x3)
def spec_l4Size.f : Nat → Int → Int → ByteArray → List (S25) → Option (Int)
 | 0, _, _, _, _ => none
 | k + 1, a0_0, a0_1, a0_2, l0_3 => spec_l4Size.l0 k 1 0 a0_0 a0_1 a0_2 l0_3
end
theorem spec_l4Size.mono_l : ∀ k, (∀ y0 y1 y2 y3, LeO (spec_l4Size.f k y0 y1 y2 y3) (spec_l4Size.f (k + 1) y0 y1 y2 y3)) ∧ (∀ y0 y1 y2 y3 y4 y5, LeO (spec_l4Size.l0 k y0 y1 y2 y3 y4 y5) (spec_l4Size.l0 (k + 1) y0 y1 y2 y3 y4 y5))
 | 0 => ⟨fun _ _ _ _ r h => by simp [spec_l4Size.f] at h, fun _ _ _ _ _ _ r h => by simp [spec_l4Size.l0] at h⟩
 | k + 1 => by
  obtain ⟨ih0, ih1⟩ := spec_l4Size.mono_l k
  refine ⟨?_, ?_⟩
  ·
   intro y0 y1 y2 y3
   unfold spec_l4Size.f
   repeat' first
   | (with_reducible exact ih0 _ _ _ _)
   | (with_reducible exact ih1 _ _ _ _ _ _)
   | (with_reducible exact LeO.refl _)
   | (with_reducible exact LeO.none _)
   | (with_reducible refine LeO.ite ?_ ?_)
   | (with_reducible refine LeO.bind ?_ (fun _ => ?_))
   | exact ih0 _ _ _ _
   | exact ih1 _ _ _ _ _ _
   | exact LeO.none _
   | refine LeO.ite ?_ ?_
   | refine LeO.bind ?_ (fun _ => ?_)
  ·
   intro y0 y1 y2 y3 y4 y5
   unfold spec_l4Size.l0
   repeat' first
   | (with_reducible exact ih0 _ _ _ _)
   | (with_reducible exact ih1 _ _ _ _ _ _)
   | (with_reducible exact LeO.refl _)
   | (with_reducible exact LeO.none _)
   | (with_reducible refine LeO.ite ?_ ?_)
   | (with_reducible refine LeO.bind ?_ (fun _ => ?_))
   | exact ih0 _ _ _ _
   | exact ih1 _ _ _ _ _ _
   | exact LeO.none _
   | refine LeO.ite ?_ ?_
   | refine LeO.bind ?_ (fun _ => ?_)
theorem spec_l4Size.mono : ∀ a0 a1 a2 a3 k, LeO (spec_l4Size.f k a0 a1 a2 a3) (spec_l4Size.f (k + 1) a0 a1 a2 a3) := by
 intro a0 a1 a2 a3 k
 obtain ⟨ih0, ih1⟩ := spec_l4Size.mono_l k
 exact ih0 a0 a1 a2 a3
set_option maxHeartbeats 8000000 in
set_option maxRecDepth 100000 in
theorem spec_l4Size.calls (k : Nat) : ∀ (a0_0 : Int) (a0_1 : Int) (a0_2 : ByteArray) (A0_3 : Option Addr) (c0_3 : Nat) (l0_3 : List (S25)) (r : Int) (w : World) (hr0_3 : Kd.C k25 w A0_3 l0_3.length l0_3) (hc0_3 : l0_3.length ≤ c0_3) (h : spec_l4Size.f k a0_0 a0_1 a0_2 l0_3 = some r),
  Calls Try.prog 78 #[.agg #[.int .i64 a0_0, .int .i64 a0_1, .string a0_2, .slice A0_3 l0_3.length c0_3]] w fun e w' => e = .returned (.int .i64 r) ∧ Below w.heap.size w w' := by
 induction k using Nat.strongRecOn with
 | _ k ih =>
 intro a0_0 a0_1 a0_2 A0_3 c0_3 l0_3 r w hr0_3 hc0_3 h
 cases k with
 | zero => exact absurd h (by simp [spec_l4Size.f])
 | succ k =>
 simp only [spec_l4Size.f] at h
 have hu25 := Try.underlying25
 have HR0_3 := Aside0.mk hr0_3
 have HC0_3 := Aside0.mk hc0_3
 clear hr0_3 hc0_3
 have HB := Aside0.mk (Below.refl w.heap.size w)
 have H : (spec_l4Size.l0 k 1 0 a0_0 a0_1 a0_2 l0_3) = some r := h
 clear h
 have H' := Aside0.mk H
 clear H
 go_enter Try.func78, Try.ntmps78
 go_wp2_with (first | ((with_reducible refine gate_dst (N := 1) rfl ?_); refine box_event ?hg (N := 1) ?hd (cs := #[.int .i64 a0_0, .int .i64 a0_1, .string a0_2, .slice A0_3 l0_3.length c0_3]) (t := 25) ?hr ?_; (case hd => rfl); (case hg => rfl); (case hr => first | (go_simp; done) | (go_simp; rfl)); intro gb481 hg w2 hbox hb; have n0_ := Aside0.mk (below_step (by exact bw HB.out) hb); have n1_ := Aside0.mk (hbox); have n2_ := Aside0.mk ((by rw [hg]; exact (below_size (by exact bw HB.out)) : w.heap.size ≤ gb481)); have n3_ := Aside0.mk ((by rw [hg]; exact (below_size (by exact bw HB.out)) : w.heap.size ≤ gb481)); clear HB; have HB := n0_; have BK481 := n1_; have GW481 := n2_; have GE481 := n3_; clear n0_ n1_ n2_ n3_; clear hb hbox hg))
 go_loopg [3, 4] k (fun kq v3 v4 w' => ∃ (x3_1 : Int) (x4_1 : Int), v3 = .int .i64 x3_1 ∧ v4 = .int .i64 x4_1 ∧ Aside0 (spec_l4Size.l0 kq x3_1 x4_1 a0_0 a0_1 a0_2 l0_3 = some r) ∧ Aside0 (kq ≤ k) ∧ Aside0 (w'.heap[gb481]? = some (.cells #[.int .i64 a0_0, .int .i64 a0_1, .string a0_2, (.slice A0_3 l0_3.length c0_3)] 25 (0, 0))) ∧ Aside0 (Below w.heap.size w w'))
 case atStart => exact ⟨(1), (0), (by first | rfl | (simp; done) | (simp [*]; done)), (by first | rfl | (simp; done) | (simp [*]; done)), H', ⟨Nat.le_refl _⟩, ⟨by exact bk BK481.out⟩, ⟨by exact bw HB.out⟩⟩
 case round =>
  clear H'
  try clear p2
  obtain ⟨x3_1, x4_1, rfl, rfl, HA, HK1, BK481, HB⟩ := hrel
  cases gk with
  | zero => exact absurd HA.out (by simp [spec_l4Size.l0])
  | succ k1 =>
   have H := HA.out
   clear HA
   simp only [spec_l4Size.l0] at H
   by_cases c3 : x4_1 < (l0_3.length : Int)
   ·
    rw [if_pos c3] at H
    have c3b0 : decide (x4_1 < (l0_3.length : Int)) = true := decide_eq_true c3
    clear c3
    by_cases c4 : 0 ≤ x4_1
    ·
     rw [if_pos c4] at H
     have c4b0 : decide (0 ≤ x4_1) = true := decide_eq_true c4
     clear c4
     replace H := Option.bind_eq_some_iff.mp H
     obtain ⟨t483, A50, H⟩ := H
     replace H : (spec_l4Size.l0 k1 (wrap64 (x3_1 + t483)) (wrap64 (x4_1 + 1)) a0_0 a0_1 a0_2 l0_3) = some r := H
     have A5 := Aside0.mk A50
     clear A50
     have H' := Aside0.mk H
     clear H
     have hcz6_0 : wr.cell? ⟨gb481, 0, none⟩ = some (.int .i64 a0_0) := (blk_cell BK481.out 0).trans rfl
     have hcz6_1 : wr.cell? ⟨gb481, 1, none⟩ = some (.int .i64 a0_1) := (blk_cell BK481.out 1).trans rfl
     have hcz6_2 : wr.cell? ⟨gb481, 2, none⟩ = some (.string a0_2) := (blk_cell BK481.out 2).trans rfl
     have hcz6_3 : wr.cell? ⟨gb481, 3, none⟩ = some (.slice A0_3 l0_3.length c0_3) := (blk_cell BK481.out 3).trans rfl
     have hfz6_0 := blk_frozen BK481.out 0
     have hfz6_1 := blk_frozen BK481.out 1
     have hfz6_2 := blk_frozen BK481.out 2
     have hfz6_3 := blk_frozen BK481.out 3
     have p482 : 0 ≤ (x4_1 : Int) := of_decide_eq_true (by first | (with_reducible assumption) | assumption)
     have q482 : x4_1 < (l0_3.length : Int) := of_decide_eq_true (by first | (with_reducible assumption) | assumption)
     obtain ⟨ad482, A482_3, c482_3, e482, hx482_0, hx482_1, hx482_2, hx482_3, hl482_3, hi482_3⟩ := at_T25 HR0_3.out x4_1 p482 q482
     cases e482
     first | replace hx482_0 := (HB.out.cell (World.block_lt_of_cell? w _ hx482_0)).trans hx482_0 | skip
     first | replace hx482_1 := (HB.out.cell (World.block_lt_of_cell? w _ hx482_1)).trans hx482_1 | skip
     first | replace hx482_2 := (HB.out.cell (World.block_lt_of_cell? w _ hx482_2)).trans hx482_2 | skip
     first | replace hx482_3 := (HB.out.cell (World.block_lt_of_cell? w _ hx482_3)).trans hx482_3 | skip
     have HR482_3 := Aside0.mk hi482_3
     have HC482_3 := Aside0.mk hl482_3
     clear hi482_3 hl482_3
     replace p482 := eq_true p482
     replace q482 := eq_true q482
     go_wp2_with (first | ((with_reducible refine gate_callee (f := 78) rfl ?_); refine gl (some 18) Try.func78 #[.agg #[.int .i64 ((rd_T25 l0_3 x4_1).f0), .int .i64 ((rd_T25 l0_3 x4_1).f1), .string ((rd_T25 l0_3 x4_1).f2), .slice A482_3 ((rd_T25 l0_3 x4_1).f3).length c482_3]] ?_; (with_reducible refine (ih k1 (by have := HK1.out; omega) ((rd_T25 l0_3 x4_1).f0) ((rd_T25 l0_3 x4_1).f1) ((rd_T25 l0_3 x4_1).f2) _ _ ((rd_T25 l0_3 x4_1).f3) t483 _ ?side1 ?side2 A5.out).mono ?_); (case side1 => repeat (first | exact (Kd.C_below HR482_3.out HB.out) | (with_reducible refine Kd.C_alloc ?_ _) | (with_reducible refine Kd.C_drewN ?_ _) | (with_reducible refine Kd.C_drew ?_))); (case side2 => exact HC482_3.out); rintro e w7 ⟨rfl, hb⟩; refine ⟨_, rfl, ?_⟩; have n0_ := Aside0.mk (blk_below (g := gb481) (o := .cells #[.int .i64 a0_0, .int .i64 a0_1, .string a0_2, .slice (some ad482) l0_3.length c0_3] 25 (0, 0)) (by exact bk BK481.out) hb); have n1_ := Aside0.mk (below_step (by exact bw HB.out) hb); clear BK481; clear HB; have BK481 := n0_; have HB := n1_; clear n0_ n1_; (try clear hb); (try clear hb2); (try clear hk); (try clear hi)))
     go_roundg k1
     case measure => have := HK1.out; omega
     case rel => exact ⟨(wrap64 (x3_1 + t483)), (wrap64 (x4_1 + 1)), (by first | rfl | (simp; done) | (simp [*]; done)), (by first | rfl | (simp; done) | (simp [*]; done)), H', ⟨by have := HK1.out; omega⟩, ⟨by exact bk BK481.out⟩, ⟨by exact bw HB.out⟩⟩
    ·
     rw [if_neg c4] at H
     exact absurd H (by simp)
   ·
    rw [if_neg c3] at H
    have c3b0 : decide (x4_1 < (l0_3.length : Int)) = false := decide_eq_false c3
    clear c3
    obtain rfl := Option.some.inj H
    have hcz8_0 : wr.cell? ⟨gb481, 0, none⟩ = some (.int .i64 a0_0) := (blk_cell BK481.out 0).trans rfl
    have hcz8_1 : wr.cell? ⟨gb481, 1, none⟩ = some (.int .i64 a0_1) := (blk_cell BK481.out 1).trans rfl
    have hcz8_2 : wr.cell? ⟨gb481, 2, none⟩ = some (.string a0_2) := (blk_cell BK481.out 2).trans rfl
    have hcz8_3 : wr.cell? ⟨gb481, 3, none⟩ = some (.slice A0_3 l0_3.length c0_3) := (blk_cell BK481.out 3).trans rfl
    have hfz8_0 := blk_frozen BK481.out 0
    have hfz8_1 := blk_frozen BK481.out 1
    have hfz8_2 := blk_frozen BK481.out 2
    have hfz8_3 := blk_frozen BK481.out 3
    go_wp2
    go_ret
    exact ⟨by first | rfl | (simp [errW_none, errW_some] <;> rfl) | (simp [*, errW_none, errW_some] <;> rfl), by exact bw HB.out⟩

end Go.Proofs.Ytongmkdapcgmfaa.P
