-- Written by a program of this session (wip/tool).
import Derived.Test.YtbbbgochcfccgaaPx0
import Derived.Test.YtbbbgochcfccgaaPx1060
namespace Go.Proofs.Ytbbbgochcfccgaa.P
open Go.RowKit Go.Proofs.YtbbbgochcfccgaaW.PrintWords Go.Proofs.YtbbbgochcfccgaaW.PrintLast Go.Proofs.YtbbbgochcfccgaaW.PrintMore
attribute [local go_sem] max2_int min2_int max_two min_two max_three min_three max_four min_four   -- for this text's walks alone
set_option linter.unusedVariables false
set_option linter.unusedSimpArgs false

/-! ### spec_l4Size: function 61 -/
mutual
def spec_l4Size.l0 : Nat → Int → Int → Int → Int → ByteArray → List (S29) → Option (Int)
 | 0, _, _, _, _, _, _ => none
 | k + 1, x3, x4, x122000, x122001, x122002, x122003 => if x4 < (x122003.length : Int) then (if 0 ≤ x4 then ((spec_l4Size.f k ((rd_T29 x122003 x4).f0) ((rd_T29 x122003 x4).f1) ((rd_T29 x122003 x4).f2) ((rd_T29 x122003 x4).f3)).bind fun t123 => (spec_l4Size.l0 k (wrap64 (x3 + t123)) (wrap64 (x4 + 1)) x122000 x122001 x122002 x122003)) else (none)) else (some x3)
def spec_l4Size.f : Nat → Int → Int → ByteArray → List (S29) → Option (Int)
 | 0, _, _, _, _ => none
 | k + 1, a0_0, a0_1, a0_2, l0_3 => spec_l4Size.l0 k 1 0 a0_0 a0_1 a0_2 l0_3
end
theorem spec_l4Size.mono_l : ∀ k, (∀ y0 y1 y2 y3, LeO (spec_l4Size.f k y0 y1 y2 y3) (spec_l4Size.f (k + 1) y0 y1 y2 y3)) ∧ (∀ y0 y1 y2 y3 y4 y5, LeO (spec_l4Size.l0 k y0 y1 y2 y3 y4 y5) (spec_l4Size.l0 (k + 1) y0 y1 y2 y3 y4 y5))
 | 0 => ⟨fun _ _ _ _ r h => by simp [spec_l4Size.f] at h, fun _ _ _ _ _ _ r h => by simp [spec_l4Size.l0] at h⟩
 | k + 1 => by
  obtain ⟨ih0, ih1⟩ := spec_l4Size.mono_l k
  refine ⟨?_, ?_⟩
  ·
   intro y0 y1 y2 y3
   unfold spec_l4Size.f
   repeat' first
   | (with_reducible exact ih0 _ _ _ _)
   | (with_reducible exact ih1 _ _ _ _ _ _)
   | (with_reducible exact LeO.refl _)
   | (with_reducible exact LeO.none _)
   | (with_reducible refine LeO.ite ?_ ?_)
   | (with_reducible refine LeO.bind ?_ (fun _ => ?_))
   | exact ih0 _ _ _ _
   | exact ih1 _ _ _ _ _ _
   | exact LeO.none _
   | refine LeO.ite ?_ ?_
   | refine LeO.bind ?_ (fun _ => ?_)
  ·
   intro y0 y1 y2 y3 y4 y5
   unfold spec_l4Size.l0
   repeat' first
   | (with_reducible exact ih0 _ _ _ _)
   | (with_reducible exact ih1 _ _ _ _ _ _)
   | (with_reducible exact LeO.refl _)
   | (with_reducible exact LeO.none _)
   | (with_reducible refine LeO.ite ?_ ?_)
   | (with_reducible refine LeO.bind ?_ (fun _ => ?_))
   | exact ih0 _ _ _ _
   | exact ih1 _ _ _ _ _ _
   | exact LeO.none _
   | refine LeO.ite ?_ ?_
   | refine LeO.bind ?_ (fun _ => ?_)
theorem spec_l4Size.mono : ∀ a0 a1 a2 a3 k, LeO (spec_l4Size.f k a0 a1 a2 a3) (spec_l4Size.f (k + 1) a0 a1 a2 a3) := by
 intro a0 a1 a2 a3 k
 obtain ⟨ih0, ih1⟩ := spec_l4Size.mono_l k
 exact ih0 a0 a1 a2 a3
set_option maxHeartbeats 8000000 in
set_option maxRecDepth 100000 in
theorem spec_l4Size.calls (k : Nat) : ∀ (a0_0 : Int) (a0_1 : Int) (a0_2 : ByteArray) (A0_3 : Option Addr) (c0_3 : Nat) (l0_3 : List (S29)) (r : Int) (w : World) (hr0_3 : Kd.C k29 w A0_3 l0_3.length l0_3) (hc0_3 : l0_3.length ≤ c0_3) (h : spec_l4Size.f k a0_0 a0_1 a0_2 l0_3 = some r),
  Calls Try.prog 61 #[.agg #[.int .i64 a0_0, .int .i64 a0_1, .string a0_2, .slice A0_3 l0_3.length c0_3]] w fun e w' => e = .returned (.int .i64 r) ∧ Below w.heap.size w w' := by
 induction k using Nat.strongRecOn with
 | _ k ih =>
 intro a0_0 a0_1 a0_2 A0_3 c0_3 l0_3 r w hr0_3 hc0_3 h
 cases k with
 | zero => exact absurd h (by simp [spec_l4Size.f])
 | succ k =>
 simp only [spec_l4Size.f] at h
 have hu29 := Try.underlying29
 have HR0_3 := Aside0.mk hr0_3
 have HC0_3 := Aside0.mk hc0_3
 clear hr0_3 hc0_3
 have HB := Aside0.mk (Below.refl w.heap.size w)
 have H : (spec_l4Size.l0 k 1 0 a0_0 a0_1 a0_2 l0_3) = some r := h
 clear h
 have H' := Aside0.mk H
 clear H
 go_enter Try.func61, Try.ntmps61
 go_wp2_with (first | ((with_reducible refine gate_dst (N := 1) rfl ?_); refine bx 1 #[.int .i64 a0_0, .int .i64 a0_1, .string a0_2, .slice A0_3 l0_3.length c0_3] 29 ?_; intro gb121 hg w2 hbox hb; have BK121 := Aside0.mk (hbox); have GW121 := gwB HB hg; have GE121 := gwB HB hg; replace HB := bS HB hb; clear hb hbox hg))
 go_loopg [3, 4] k (fun kq v3 v4 w' => ∃ (x3_1 : Int) (x4_1 : Int), v3 = .int .i64 x3_1 ∧ v4 = .int .i64 x4_1 ∧ Aside0 (spec_l4Size.l0 kq x3_1 x4_1 a0_0 a0_1 a0_2 l0_3 = some r) ∧ Aside0 (kq ≤ k) ∧ Aside0 (w'.heap[gb121]? = some (.cells #[.int .i64 a0_0, .int .i64 a0_1, .string a0_2, (.slice A0_3 l0_3.length c0_3)] 29 (0, 0))) ∧ Aside0 (Below w.heap.size w w'))
 case atStart => exact ⟨(1), (0), (by first | rfl | (simp; done) | (simp [*]; done)), (by first | rfl | (simp; done) | (simp [*]; done)), H', ⟨Nat.le_refl _⟩, ⟨by exact bk BK121.out⟩, ⟨by exact bw HB.out⟩⟩
 case round =>
  clear H'
  try clear p2
  obtain ⟨x3_1, x4_1, rfl, rfl, HA, HK1, BK121, HB⟩ := hrel
  cases gk with
  | zero => exact absurd HA.out (by simp [spec_l4Size.l0])
  | succ k1 =>
   have H := HA.out
   clear HA
   simp only [spec_l4Size.l0] at H
   by_cases c3 : x4_1 < (l0_3.length : Int)
   ·
    rw [if_pos c3] at H; have c3b0 : decide (x4_1 < (l0_3.length : Int)) = true := decide_eq_true c3; clear c3
    by_cases c4 : 0 ≤ x4_1
    ·
     rw [if_pos c4] at H; have c4b0 : decide (0 ≤ x4_1) = true := decide_eq_true c4; clear c4
     replace H := Option.bind_eq_some_iff.mp H
     obtain ⟨t123, A50, H⟩ := H
     replace H : (spec_l4Size.l0 k1 (wrap64 (x3_1 + t123)) (wrap64 (x4_1 + 1)) a0_0 a0_1 a0_2 l0_3) = some r := H
     have A5 := Aside0.mk A50
     clear A50
     have H' := Aside0.mk H
     clear H
     have hcz6_0 : wr.cell? ⟨gb121, 0, none⟩ = some (.int .i64 a0_0) := (blk_cell BK121.out 0).trans rfl
     have hcz6_1 : wr.cell? ⟨gb121, 1, none⟩ = some (.int .i64 a0_1) := (blk_cell BK121.out 1).trans rfl
     have hcz6_2 : wr.cell? ⟨gb121, 2, none⟩ = some (.string a0_2) := (blk_cell BK121.out 2).trans rfl
     have hcz6_3 : wr.cell? ⟨gb121, 3, none⟩ = some (.slice A0_3 l0_3.length c0_3) := (blk_cell BK121.out 3).trans rfl
     have hfz6_0 := blk_frozen BK121.out 0
     have hfz6_1 := blk_frozen BK121.out 1
     have hfz6_2 := blk_frozen BK121.out 2
     have hfz6_3 := blk_frozen BK121.out 3
     have p122 : 0 ≤ (x4_1 : Int) := of_decide_eq_true (by first | (with_reducible assumption) | assumption)
     have q122 : x4_1 < (l0_3.length : Int) := of_decide_eq_true (by first | (with_reducible assumption) | assumption)
     obtain ⟨ad122, A122_3, c122_3, e122, hx122_0, hx122_1, hx122_2, hx122_3, hl122_3, hi122_3⟩ := at_T29 HR0_3.out x4_1 p122 q122
     cases e122
     first | replace hx122_0 := (HB.out.cell (World.block_lt_of_cell? w _ hx122_0)).trans hx122_0 | skip
     first | replace hx122_1 := (HB.out.cell (World.block_lt_of_cell? w _ hx122_1)).trans hx122_1 | skip
     first | replace hx122_2 := (HB.out.cell (World.block_lt_of_cell? w _ hx122_2)).trans hx122_2 | skip
     first | replace hx122_3 := (HB.out.cell (World.block_lt_of_cell? w _ hx122_3)).trans hx122_3 | skip
     have HR122_3 := Aside0.mk hi122_3
     have HC122_3 := Aside0.mk hl122_3
     clear hi122_3 hl122_3
     replace p122 := eq_true p122
     replace q122 := eq_true q122
     go_wp2_with (first | ((with_reducible refine gate_callee (f := 61) rfl ?_); refine gl (some 18) Try.func61 #[.agg #[.int .i64 ((rd_T29 l0_3 x4_1).f0), .int .i64 ((rd_T29 l0_3 x4_1).f1), .string ((rd_T29 l0_3 x4_1).f2), .slice A122_3 ((rd_T29 l0_3 x4_1).f3).length c122_3]] ?_; (with_reducible refine (ih k1 (by have := HK1.out; omega) ((rd_T29 l0_3 x4_1).f0) ((rd_T29 l0_3 x4_1).f1) ((rd_T29 l0_3 x4_1).f2) _ _ ((rd_T29 l0_3 x4_1).f3) t123 _ ?side1 ?side2 A5.out).mono ?_); (case side1 => repeat (first | exact (Kd.C_below HR122_3.out HB.out) | (with_reducible refine Kd.C_alloc ?_ _) | (with_reducible refine Kd.C_drewN ?_ _) | (with_reducible refine Kd.C_drew ?_))); (case side2 => exact HC122_3.out); rintro e w7 ⟨rfl, hb⟩; refine ⟨_, rfl, ?_⟩; replace BK121 := bB BK121 hb; replace HB := bS HB hb; (try clear hb); (try clear hb2); (try clear hk); (try clear hi)))
     go_roundg k1
     case measure => have := HK1.out; omega
     case rel => exact ⟨(wrap64 (x3_1 + t123)), (wrap64 (x4_1 + 1)), (by first | rfl | (simp; done) | (simp [*]; done)), (by first | rfl | (simp; done) | (simp [*]; done)), H', ⟨by have := HK1.out; omega⟩, ⟨by exact bk BK121.out⟩, ⟨by exact bw HB.out⟩⟩
    ·
     rw [if_neg c4] at H; exact absurd H (by simp)
   ·
    rw [if_neg c3] at H; have c3b0 : decide (x4_1 < (l0_3.length : Int)) = false := decide_eq_false c3; clear c3
    obtain rfl := Option.some.inj H
    have hcz8_0 : wr.cell? ⟨gb121, 0, none⟩ = some (.int .i64 a0_0) := (blk_cell BK121.out 0).trans rfl
    have hcz8_1 : wr.cell? ⟨gb121, 1, none⟩ = some (.int .i64 a0_1) := (blk_cell BK121.out 1).trans rfl
    have hcz8_2 : wr.cell? ⟨gb121, 2, none⟩ = some (.string a0_2) := (blk_cell BK121.out 2).trans rfl
    have hcz8_3 : wr.cell? ⟨gb121, 3, none⟩ = some (.slice A0_3 l0_3.length c0_3) := (blk_cell BK121.out 3).trans rfl
    have hfz8_0 := blk_frozen BK121.out 0
    have hfz8_1 := blk_frozen BK121.out 1
    have hfz8_2 := blk_frozen BK121.out 2
    have hfz8_3 := blk_frozen BK121.out 3
    go_wp2
    go_ret
    exact ⟨by first | rfl | (simp [errW_none, errW_some] <;> rfl) | (simp [*, errW_none, errW_some] <;> rfl), by exact bw HB.out⟩

/-! ### spec_l4Deep: function 62 -/
mutual
def spec_l4Deep.l0 : Nat → Int → Int → Int → Int → ByteArray → List (S29) → Option (Int)
 | 0, _, _, _, _, _, _ => none
 | k + 1, x3, x4, x125000, x125001, x125002, x125003 => if x4 < (x125003.length : Int) then (if 0 ≤ x4 then ((spec_l4Deep.f k ((rd_T29 x125003 x4).f0) ((rd_T29 x125003 x4).f1) ((rd_T29 x125003 x4).f2) ((rd_T29 x125003 x4).f3)).bind fun t126 => (spec_l4Deep.l0 k (mx x3 t126) (wrap64 (x4 + 1)) x125000 x125001 x125002 x125003)) else (none)) else (some (wrap64 (x3 + 1)))
def spec_l4Deep.f : Nat → Int → Int → ByteArray → List (S29) → Option (Int)
 | 0, _, _, _, _ => none
 | k + 1, a0_0, a0_1, a0_2, l0_3 => spec_l4Deep.l0 k 0 0 a0_0 a0_1 a0_2 l0_3
end
theorem spec_l4Deep.mono_l : ∀ k, (∀ y0 y1 y2 y3, LeO (spec_l4Deep.f k y0 y1 y2 y3) (spec_l4Deep.f (k + 1) y0 y1 y2 y3)) ∧ (∀ y0 y1 y2 y3 y4 y5, LeO (spec_l4Deep.l0 k y0 y1 y2 y3 y4 y5) (spec_l4Deep.l0 (k + 1) y0 y1 y2 y3 y4 y5))
 | 0 => ⟨fun _ _ _ _ r h => by simp [spec_l4Deep.f] at h, fun _ _ _ _ _ _ r h => by simp [spec_l4Deep.l0] at h⟩
 | k + 1 => by
  obtain ⟨ih0, ih1⟩ := spec_l4Deep.mono_l k
  refine ⟨?_, ?_⟩
  ·
   intro y0 y1 y2 y3
   unfold spec_l4Deep.f
   repeat' first
   | (with_reducible exact ih0 _ _ _ _)
   | (with_reducible exact ih1 _ _ _ _ _ _)
   | (with_reducible exact LeO.refl _)
   | (with_reducible exact LeO.none _)
   | (with_reducible refine LeO.ite ?_ ?_)
   | (with_reducible refine LeO.bind ?_ (fun _ => ?_))
   | exact ih0 _ _ _ _
   | exact ih1 _ _ _ _ _ _
   | exact LeO.none _
   | refine LeO.ite ?_ ?_
   | refine LeO.bind ?_ (fun _ => ?_)
  ·
   intro y0 y1 y2 y3 y4 y5
   unfold spec_l4Deep.l0
   repeat' first
   | (with_reducible exact ih0 _ _ _ _)
   | (with_reducible exact ih1 _ _ _ _ _ _)
   | (with_reducible exact LeO.refl _)
   | (with_reducible exact LeO.none _)
   | (with_reducible refine LeO.ite ?_ ?_)
   | (with_reducible refine LeO.bind ?_ (fun _ => ?_))
   | exact ih0 _ _ _ _
   | exact ih1 _ _ _ _ _ _
   | exact LeO.none _
   | refine LeO.ite ?_ ?_
   | refine LeO.bind ?_ (fun _ => ?_)
theorem spec_l4Deep.mono : ∀ a0 a1 a2 a3 k, LeO (spec_l4Deep.f k a0 a1 a2 a3) (spec_l4Deep.f (k + 1) a0 a1 a2 a3) := by
 intro a0 a1 a2 a3 k
 obtain ⟨ih0, ih1⟩ := spec_l4Deep.mono_l k
 exact ih0 a0 a1 a2 a3
set_option maxHeartbeats 8000000 in
set_option maxRecDepth 100000 in
theorem spec_l4Deep.calls (k : Nat) : ∀ (a0_0 : Int) (a0_1 : Int) (a0_2 : ByteArray) (A0_3 : Option Addr) (c0_3 : Nat) (l0_3 : List (S29)) (r : Int) (w : World) (hr0_3 : Kd.C k29 w A0_3 l0_3.length l0_3) (hc0_3 : l0_3.length ≤ c0_3) (h : spec_l4Deep.f k a0_0 a0_1 a0_2 l0_3 = some r),
  Calls Try.prog 62 #[.agg #[.int .i64 a0_0, .int .i64 a0_1, .string a0_2, .slice A0_3 l0_3.length c0_3]] w fun e w' => e = .returned (.int .i64 r) ∧ Below w.heap.size w w' := by
 induction k using Nat.strongRecOn with
 | _ k ih =>
 intro a0_0 a0_1 a0_2 A0_3 c0_3 l0_3 r w hr0_3 hc0_3 h
 cases k with
 | zero => exact absurd h (by simp [spec_l4Deep.f])
 | succ k =>
 simp only [spec_l4Deep.f] at h
 have hu29 := Try.underlying29
 have HR0_3 := Aside0.mk hr0_3
 have HC0_3 := Aside0.mk hc0_3
 clear hr0_3 hc0_3
 have HB := Aside0.mk (Below.refl w.heap.size w)
 have H : (spec_l4Deep.l0 k 0 0 a0_0 a0_1 a0_2 l0_3) = some r := h
 clear h
 have H' := Aside0.mk H
 clear H
 go_enter Try.func62, Try.ntmps62
 go_wp2_with (first | ((with_reducible refine gate_dst (N := 1) rfl ?_); refine bx 1 #[.int .i64 a0_0, .int .i64 a0_1, .string a0_2, .slice A0_3 l0_3.length c0_3] 29 ?_; intro gb124 hg w2 hbox hb; have BK124 := Aside0.mk (hbox); have GW124 := gwB HB hg; have GE124 := gwB HB hg; replace HB := bS HB hb; clear hb hbox hg))
 go_loopg [3, 4] k (fun kq v3 v4 w' => ∃ (x3_1 : Int) (x4_1 : Int), v3 = .int .i64 x3_1 ∧ v4 = .int .i64 x4_1 ∧ Aside0 (spec_l4Deep.l0 kq x3_1 x4_1 a0_0 a0_1 a0_2 l0_3 = some r) ∧ Aside0 (kq ≤ k) ∧ Aside0 (w'.heap[gb124]? = some (.cells #[.int .i64 a0_0, .int .i64 a0_1, .string a0_2, (.slice A0_3 l0_3.length c0_3)] 29 (0, 0))) ∧ Aside0 (Below w.heap.size w w'))
 case atStart => exact ⟨(0), (0), (by first | rfl | (simp; done) | (simp [*]; done)), (by first | rfl | (simp; done) | (simp [*]; done)), H', ⟨Nat.le_refl _⟩, ⟨by exact bk BK124.out⟩, ⟨by exact bw HB.out⟩⟩
 case round =>
  clear H'
  try clear p2
  obtain ⟨x3_1, x4_1, rfl, rfl, HA, HK1, BK124, HB⟩ := hrel
  cases gk with
  | zero => exact absurd HA.out (by simp [spec_l4Deep.l0])
  | succ k1 =>
   have H := HA.out
   clear HA
   simp only [spec_l4Deep.l0] at H
   by_cases c3 : x4_1 < (l0_3.length : Int)
   ·
    rw [if_pos c3] at H; have c3b0 : decide (x4_1 < (l0_3.length : Int)) = true := decide_eq_true c3; clear c3
    by_cases c4 : 0 ≤ x4_1
    ·
     rw [if_pos c4] at H; have c4b0 : decide (0 ≤ x4_1) = true := decide_eq_true c4; clear c4
     replace H := Option.bind_eq_some_iff.mp H
     obtain ⟨t126, A50, H⟩ := H
     replace H : (spec_l4Deep.l0 k1 (mx x3_1 t126) (wrap64 (x4_1 + 1)) a0_0 a0_1 a0_2 l0_3) = some r := H
     have A5 := Aside0.mk A50
     clear A50
     obtain ⟨ji6, hji6⟩ : ∃ j_ : Int, (mx x3_1 t126) = j_ := ⟨_, rfl⟩
     replace H : (spec_l4Deep.l0 k1 ji6 (wrap64 (x4_1 + 1)) a0_0 a0_1 a0_2 l0_3) = some r := by first | (rw [hji6] at H; exact H) | (simp only [hji6] at H ⊢; exact H)
     (try rw [hji6] at A5)
     have hji6_ : (if x3_1 < t126 then t126 else x3_1) = ji6 := hji6
     have H' := Aside0.mk H
     clear H
     have hcz7_0 : wr.cell? ⟨gb124, 0, none⟩ = some (.int .i64 a0_0) := (blk_cell BK124.out 0).trans rfl
     have hcz7_1 : wr.cell? ⟨gb124, 1, none⟩ = some (.int .i64 a0_1) := (blk_cell BK124.out 1).trans rfl
     have hcz7_2 : wr.cell? ⟨gb124, 2, none⟩ = some (.string a0_2) := (blk_cell BK124.out 2).trans rfl
     have hcz7_3 : wr.cell? ⟨gb124, 3, none⟩ = some (.slice A0_3 l0_3.length c0_3) := (blk_cell BK124.out 3).trans rfl
     have hfz7_0 := blk_frozen BK124.out 0
     have hfz7_1 := blk_frozen BK124.out 1
     have hfz7_2 := blk_frozen BK124.out 2
     have hfz7_3 := blk_frozen BK124.out 3
     have p125 : 0 ≤ (x4_1 : Int) := of_decide_eq_true (by first | (with_reducible assumption) | assumption)
     have q125 : x4_1 < (l0_3.length : Int) := of_decide_eq_true (by first | (with_reducible assumption) | assumption)
     obtain ⟨ad125, A125_3, c125_3, e125, hx125_0, hx125_1, hx125_2, hx125_3, hl125_3, hi125_3⟩ := at_T29 HR0_3.out x4_1 p125 q125
     cases e125
     first | replace hx125_0 := (HB.out.cell (World.block_lt_of_cell? w _ hx125_0)).trans hx125_0 | skip
     first | replace hx125_1 := (HB.out.cell (World.block_lt_of_cell? w _ hx125_1)).trans hx125_1 | skip
     first | replace hx125_2 := (HB.out.cell (World.block_lt_of_cell? w _ hx125_2)).trans hx125_2 | skip
     first | replace hx125_3 := (HB.out.cell (World.block_lt_of_cell? w _ hx125_3)).trans hx125_3 | skip
     have HR125_3 := Aside0.mk hi125_3
     have HC125_3 := Aside0.mk hl125_3
     clear hi125_3 hl125_3
     replace p125 := eq_true p125
     replace q125 := eq_true q125
     go_wp2_with (first | ((with_reducible refine gate_callee (f := 62) rfl ?_); refine gl (some 18) Try.func62 #[.agg #[.int .i64 ((rd_T29 l0_3 x4_1).f0), .int .i64 ((rd_T29 l0_3 x4_1).f1), .string ((rd_T29 l0_3 x4_1).f2), .slice A125_3 ((rd_T29 l0_3 x4_1).f3).length c125_3]] ?_; (with_reducible refine (ih k1 (by have := HK1.out; omega) ((rd_T29 l0_3 x4_1).f0) ((rd_T29 l0_3 x4_1).f1) ((rd_T29 l0_3 x4_1).f2) _ _ ((rd_T29 l0_3 x4_1).f3) t126 _ ?side1 ?side2 A5.out).mono ?_); (case side1 => repeat (first | exact (Kd.C_below HR125_3.out HB.out) | (with_reducible refine Kd.C_alloc ?_ _) | (with_reducible refine Kd.C_drewN ?_ _) | (with_reducible refine Kd.C_drew ?_))); (case side2 => exact HC125_3.out); rintro e w8 ⟨rfl, hb⟩; refine ⟨_, rfl, ?_⟩; replace BK124 := bB BK124 hb; replace HB := bS HB hb; (try clear hb); (try clear hb2); (try clear hk); (try clear hi)))
     go_roundg k1
     case measure => have := HK1.out; omega
     case rel => exact ⟨(ji6), (wrap64 (x4_1 + 1)), (by first | rfl | (simp; done) | (simp only [← hji6] <;> (first | rfl | simp)) | (simp [*]; done)), (by first | rfl | (simp; done) | (simp [*]; done)), H', ⟨by have := HK1.out; omega⟩, ⟨by exact bk BK124.out⟩, ⟨by exact bw HB.out⟩⟩
    ·
     rw [if_neg c4] at H; exact absurd H (by simp)
   ·
    rw [if_neg c3] at H; have c3b0 : decide (x4_1 < (l0_3.length : Int)) = false := decide_eq_false c3; clear c3
    obtain rfl := Option.some.inj H
    have hcz9_0 : wr.cell? ⟨gb124, 0, none⟩ = some (.int .i64 a0_0) := (blk_cell BK124.out 0).trans rfl
    have hcz9_1 : wr.cell? ⟨gb124, 1, none⟩ = some (.int .i64 a0_1) := (blk_cell BK124.out 1).trans rfl
    have hcz9_2 : wr.cell? ⟨gb124, 2, none⟩ = some (.string a0_2) := (blk_cell BK124.out 2).trans rfl
    have hcz9_3 : wr.cell? ⟨gb124, 3, none⟩ = some (.slice A0_3 l0_3.length c0_3) := (blk_cell BK124.out 3).trans rfl
    have hfz9_0 := blk_frozen BK124.out 0
    have hfz9_1 := blk_frozen BK124.out 1
    have hfz9_2 := blk_frozen BK124.out 2
    have hfz9_3 := blk_frozen BK124.out 3
    go_wp2
    go_ret
    exact ⟨by first | rfl | (simp [errW_none, errW_some] <;> rfl) | (simp [*, errW_none, errW_some] <;> rfl), by exact bw HB.out⟩

/-! ### spec_ExprValid: function 29 -/
def spec_ExprValid.f (k : Nat) (a0_0 : Int) (a0_1 : Int) (a0_2 : ByteArray) (l0_3 : List (S29)) : Option (Bool) := (spec_l4Good.f k a0_0 a0_1 a0_2 l0_3).bind fun t128 => (if t128 = true then ((spec_l4Size.f k a0_0 a0_1 a0_2 l0_3).bind fun t129 => (if t129 ≤ 40 then ((spec_l4Deep.f k a0_0 a0_1 a0_2 l0_3).bind fun t130 => (some (decide (t130 ≤ 7)))) else (some false))) else (some false))
theorem spec_ExprValid.mono : ∀ a0 a1 a2 a3 k, LeO (spec_ExprValid.f k a0 a1 a2 a3) (spec_ExprValid.f (k + 1) a0 a1 a2 a3) := by
 intro a0 a1 a2 a3 k
 unfold spec_ExprValid.f
 repeat' first
   | (with_reducible exact spec_l4Deep.mono _ _ _ _ _)
   | (with_reducible exact spec_l4Good.mono _ _ _ _ _)
   | (with_reducible exact spec_l4Size.mono _ _ _ _ _)
   | (with_reducible exact LeO.refl _)
   | (with_reducible exact LeO.none _)
   | (with_reducible refine LeO.ite ?_ ?_)
   | (with_reducible refine LeO.bind ?_ (fun _ => ?_))
   | exact spec_l4Deep.mono _ _ _ _ _
   | exact spec_l4Good.mono _ _ _ _ _
   | exact spec_l4Size.mono _ _ _ _ _
   | exact LeO.none _
   | refine LeO.ite ?_ ?_
   | refine LeO.bind ?_ (fun _ => ?_)
set_option maxHeartbeats 8000000 in
set_option maxRecDepth 100000 in
theorem spec_ExprValid.calls (k : Nat) (a0_0 : Int) (a0_1 : Int) (a0_2 : ByteArray) (A0_3 : Option Addr) (c0_3 : Nat) (l0_3 : List (S29)) (r : Bool) (w : World) (hr0_3 : Kd.C k29 w A0_3 l0_3.length l0_3) (hc0_3 : l0_3.length ≤ c0_3) (h : spec_ExprValid.f k a0_0 a0_1 a0_2 l0_3 = some r) :
  Calls Try.prog 29 #[.agg #[.int .i64 a0_0, .int .i64 a0_1, .string a0_2, .slice A0_3 l0_3.length c0_3]] w fun e w' => e = .returned (.bool r) ∧ Below w.heap.size w w' := by
 have hu29 := Try.underlying29
 have HR0_3 := Aside0.mk hr0_3
 have HC0_3 := Aside0.mk hc0_3
 clear hr0_3 hc0_3
 have HB := Aside0.mk (Below.refl w.heap.size w)
 have H : ((spec_l4Good.f k a0_0 a0_1 a0_2 l0_3).bind fun t128 => (if t128 = true then ((spec_l4Size.f k a0_0 a0_1 a0_2 l0_3).bind fun t129 => (if t129 ≤ 40 then ((spec_l4Deep.f k a0_0 a0_1 a0_2 l0_3).bind fun t130 => (some (decide (t130 ≤ 7)))) else (some false))) else (some false))) = some r := h
 clear h
 replace H := Option.bind_eq_some_iff.mp H
 obtain ⟨t128, A20, H⟩ := H
 replace H : (if t128 = true then ((spec_l4Size.f k a0_0 a0_1 a0_2 l0_3).bind fun t129 => (if t129 ≤ 40 then ((spec_l4Deep.f k a0_0 a0_1 a0_2 l0_3).bind fun t130 => (some (decide (t130 ≤ 7)))) else (some false))) else (some false)) = some r := H
 have A2 := Aside0.mk A20
 clear A20
 by_cases c3 : t128 = true
 ·
  subst c3
  have H1 : ((spec_l4Size.f k a0_0 a0_1 a0_2 l0_3).bind fun t129 => (if t129 ≤ 40 then ((spec_l4Deep.f k a0_0 a0_1 a0_2 l0_3).bind fun t130 => (some (decide (t130 ≤ 7)))) else (some false))) = some r := by rw [if_pos rfl] at H; exact H
  clear H
  have H := H1
  clear H1
  replace H := Option.bind_eq_some_iff.mp H
  obtain ⟨t129, A40, H⟩ := H
  replace H : (if t129 ≤ 40 then ((spec_l4Deep.f k a0_0 a0_1 a0_2 l0_3).bind fun t130 => (some (decide (t130 ≤ 7)))) else (some false)) = some r := H
  have A4 := Aside0.mk A40
  clear A40
  by_cases c5 : t129 ≤ 40
  ·
   rw [if_pos c5] at H; have c5b0 : decide (t129 ≤ 40) = true := decide_eq_true c5; clear c5
   replace H := Option.bind_eq_some_iff.mp H
   obtain ⟨t130, A60, H⟩ := H
   replace H : (some (decide (t130 ≤ 7))) = some r := H
   have A6 := Aside0.mk A60
   clear A60
   obtain rfl := Option.some.inj H
   go_enter Try.func29, Try.ntmps29
   go_wp2_with (first | ((with_reducible refine gate_dst (N := 1) rfl ?_); refine bx 1 #[.int .i64 a0_0, .int .i64 a0_1, .string a0_2, .slice A0_3 l0_3.length c0_3] 29 ?_; intro gb127 hg w7 hbox hb; have BK127 := Aside0.mk (hbox); have GW127 := gwB HB hg; have GE127 := gwB HB hg; replace HB := bS HB hb; clear hb hbox hg; obtain ⟨hcz8_0, hcz8_1, hcz8_2, hcz8_3⟩ := cs4 BK127.out; obtain ⟨hfz8_0, hfz8_1, hfz8_2, hfz8_3⟩ := fz4 BK127.out) | ((with_reducible refine gate_callee (f := 60) rfl ?_); refine gl (some 4) Try.func60 #[.agg #[.int .i64 a0_0, .int .i64 a0_1, .string a0_2, .slice A0_3 l0_3.length c0_3]] ?_; (with_reducible refine (spec_l4Good.calls k a0_0 a0_1 a0_2 _ _ l0_3 true _ ?side1 ?side2 A2.out).mono ?_); (case side1 => repeat (first | exact (Kd.C_below HR0_3.out HB.out) | (with_reducible refine Kd.C_alloc ?_ _) | (with_reducible refine Kd.C_drewN ?_ _) | (with_reducible refine Kd.C_drew ?_))); (case side2 => exact HC0_3.out); rintro e w9 ⟨rfl, hb⟩; refine ⟨_, rfl, ?_⟩; replace BK127 := bB BK127 hb; replace HB := bS HB hb; (try clear hb); (try clear hb2); (try clear hk); (try clear hi); obtain ⟨hcz10_0, hcz10_1, hcz10_2, hcz10_3⟩ := cs4 BK127.out; obtain ⟨hfz10_0, hfz10_1, hfz10_2, hfz10_3⟩ := fz4 BK127.out) | (go_at_call 61; (with_reducible refine (spec_l4Size.calls k a0_0 a0_1 a0_2 _ _ l0_3 t129 _ ?side1 ?side2 A4.out).mono ?_); (case side1 => repeat (first | exact (Kd.C_below HR0_3.out HB.out) | (with_reducible refine Kd.C_alloc ?_ _) | (with_reducible refine Kd.C_drewN ?_ _) | (with_reducible refine Kd.C_drew ?_))); (case side2 => exact HC0_3.out); rintro e w11 ⟨rfl, hb⟩; have n0_ := bB BK127 hb; have n1_ := bS HB hb; clear BK127; clear HB; have BK127 := n0_; have HB := n1_; clear n0_ n1_; (try clear hb); (try clear hb2); (try clear hk); (try clear hi); obtain ⟨hcz12_0, hcz12_1, hcz12_2, hcz12_3⟩ := cs4 BK127.out; obtain ⟨hfz12_0, hfz12_1, hfz12_2, hfz12_3⟩ := fz4 BK127.out) | (go_at_call 62; (with_reducible refine (spec_l4Deep.calls k a0_0 a0_1 a0_2 _ _ l0_3 t130 _ ?side1 ?side2 A6.out).mono ?_); (case side1 => repeat (first | exact (Kd.C_below HR0_3.out HB.out) | (with_reducible refine Kd.C_alloc ?_ _) | (with_reducible refine Kd.C_drewN ?_ _) | (with_reducible refine Kd.C_drew ?_))); (case side2 => exact HC0_3.out); rintro e w13 ⟨rfl, hb⟩; have n0_ := bB BK127 hb; have n1_ := bS HB hb; clear BK127; clear HB; have BK127 := n0_; have HB := n1_; clear n0_ n1_; (try clear hb); (try clear hb2); (try clear hk); (try clear hi)))
   go_ret
   exact ⟨by first | rfl | (simp [errW_none, errW_some] <;> rfl) | (simp [*, errW_none, errW_some] <;> rfl), by exact bw HB.out⟩
  ·
   rw [if_neg c5] at H; have c5b0 : decide (t129 ≤ 40) = false := decide_eq_false c5; clear c5
   obtain rfl := Option.some.inj H
   go_enter Try.func29, Try.ntmps29
   go_wp2_with (first | ((with_reducible refine gate_dst (N := 1) rfl ?_); refine bx 1 #[.int .i64 a0_0, .int .i64 a0_1, .string a0_2, .slice A0_3 l0_3.length c0_3] 29 ?_; intro gb127 hg w14 hbox hb; have BK127 := Aside0.mk (hbox); have GW127 := gwB HB hg; have GE127 := gwB HB hg; replace HB := bS HB hb; clear hb hbox hg; obtain ⟨hcz15_0, hcz15_1, hcz15_2, hcz15_3⟩ := cs4 BK127.out; obtain ⟨hfz15_0, hfz15_1, hfz15_2, hfz15_3⟩ := fz4 BK127.out) | ((with_reducible refine gate_callee (f := 60) rfl ?_); refine gl (some 4) Try.func60 #[.agg #[.int .i64 a0_0, .int .i64 a0_1, .string a0_2, .slice A0_3 l0_3.length c0_3]] ?_; (with_reducible refine (spec_l4Good.calls k a0_0 a0_1 a0_2 _ _ l0_3 true _ ?side1 ?side2 A2.out).mono ?_); (case side1 => repeat (first | exact (Kd.C_below HR0_3.out HB.out) | (with_reducible refine Kd.C_alloc ?_ _) | (with_reducible refine Kd.C_drewN ?_ _) | (with_reducible refine Kd.C_drew ?_))); (case side2 => exact HC0_3.out); rintro e w16 ⟨rfl, hb⟩; refine ⟨_, rfl, ?_⟩; replace BK127 := bB BK127 hb; replace HB := bS HB hb; (try clear hb); (try clear hb2); (try clear hk); (try clear hi); obtain ⟨hcz17_0, hcz17_1, hcz17_2, hcz17_3⟩ := cs4 BK127.out; obtain ⟨hfz17_0, hfz17_1, hfz17_2, hfz17_3⟩ := fz4 BK127.out) | (go_at_call 61; (with_reducible refine (spec_l4Size.calls k a0_0 a0_1 a0_2 _ _ l0_3 t129 _ ?side1 ?side2 A4.out).mono ?_); (case side1 => repeat (first | exact (Kd.C_below HR0_3.out HB.out) | (with_reducible refine Kd.C_alloc ?_ _) | (with_reducible refine Kd.C_drewN ?_ _) | (with_reducible refine Kd.C_drew ?_))); (case side2 => exact HC0_3.out); rintro e w18 ⟨rfl, hb⟩; have n0_ := bB BK127 hb; have n1_ := bS HB hb; clear BK127; clear HB; have BK127 := n0_; have HB := n1_; clear n0_ n1_; (try clear hb); (try clear hb2); (try clear hk); (try clear hi)))
   go_ret
   exact ⟨by first | rfl | (simp [errW_none, errW_some] <;> rfl) | (simp [*, errW_none, errW_some] <;> rfl), by exact bw HB.out⟩
 ·
  replace c3 := Bool.eq_false_iff.mpr c3
  subst c3
  have H1 : (some false) = some r := by rw [if_neg (show ¬ (false = true) by decide)] at H; exact H
  clear H
  have H := H1
  clear H1
  obtain rfl := Option.some.inj H
  go_enter Try.func29, Try.ntmps29
  go_wp2_with (first | ((with_reducible refine gate_dst (N := 1) rfl ?_); refine bx 1 #[.int .i64 a0_0, .int .i64 a0_1, .string a0_2, .slice A0_3 l0_3.length c0_3] 29 ?_; intro gb127 hg w19 hbox hb; have BK127 := Aside0.mk (hbox); have GW127 := gwB HB hg; have GE127 := gwB HB hg; replace HB := bS HB hb; clear hb hbox hg; obtain ⟨hcz20_0, hcz20_1, hcz20_2, hcz20_3⟩ := cs4 BK127.out; obtain ⟨hfz20_0, hfz20_1, hfz20_2, hfz20_3⟩ := fz4 BK127.out) | ((with_reducible refine gate_callee (f := 60) rfl ?_); refine gl (some 4) Try.func60 #[.agg #[.int .i64 a0_0, .int .i64 a0_1, .string a0_2, .slice A0_3 l0_3.length c0_3]] ?_; (with_reducible refine (spec_l4Good.calls k a0_0 a0_1 a0_2 _ _ l0_3 false _ ?side1 ?side2 A2.out).mono ?_); (case side1 => repeat (first | exact (Kd.C_below HR0_3.out HB.out) | (with_reducible refine Kd.C_alloc ?_ _) | (with_reducible refine Kd.C_drewN ?_ _) | (with_reducible refine Kd.C_drew ?_))); (case side2 => exact HC0_3.out); rintro e w21 ⟨rfl, hb⟩; refine ⟨_, rfl, ?_⟩; replace BK127 := bB BK127 hb; replace HB := bS HB hb; (try clear hb); (try clear hb2); (try clear hk); (try clear hi)))
  go_ret
  exact ⟨by first | rfl | (simp [errW_none, errW_some] <;> rfl) | (simp [*, errW_none, errW_some] <;> rfl), by exact bw HB.out⟩

/-! ### spec_l8Things: function 30 -/
mutual
def spec_l8Things.j0 : Nat → Int → Int → Int → ByteArray → List (S29) → Option (Int)
 | 0, _, _, _, _, _ => none
 | k + 1, x3, x132000, x132001, x132002, x132003 => spec_l8Things.l0 k x3 0 x132000 x132001 x132002 x132003
def spec_l8Things.l0 : Nat → Int → Int → Int → Int → ByteArray → List (S29) → Option (Int)
 | 0, _, _, _, _, _, _ => none
 | k + 1, x3, x4, x132000, x132001, x132002, x132003 => if x4 < (x132003.length : Int) then (if 0 ≤ x4 then ((spec_l8Things.f k ((rd_T29 x132003 x4).f0) ((rd_T29 x132003 x4).f1) ((rd_T29 x132003 x4).f2) ((rd_T29 x132003 x4).f3)).bind fun t133 => (spec_l8Things.l0 k (mx x3 t133) (wrap64 (x4 + 1)) x132000 x132001 x132002 x132003)) else (none)) else (some x3)
def spec_l8Things.f : Nat → Int → Int → ByteArray → List (S29) → Option (Int)
 | 0, _, _, _, _ => none
 | k + 1, a0_0, a0_1, a0_2, l0_3 => if a0_0 = 3 then (spec_l8Things.j0 k a0_1 a0_0 a0_1 a0_2 l0_3) else (spec_l8Things.j0 k (-1) a0_0 a0_1 a0_2 l0_3)
end
theorem spec_l8Things.mono_l : ∀ k, (∀ y0 y1 y2 y3, LeO (spec_l8Things.f k y0 y1 y2 y3) (spec_l8Things.f (k + 1) y0 y1 y2 y3)) ∧ (∀ y0 y1 y2 y3 y4, LeO (spec_l8Things.j0 k y0 y1 y2 y3 y4) (spec_l8Things.j0 (k + 1) y0 y1 y2 y3 y4)) ∧ (∀ y0 y1 y2 y3 y4 y5, LeO (spec_l8Things.l0 k y0 y1 y2 y3 y4 y5) (spec_l8Things.l0 (k + 1) y0 y1 y2 y3 y4 y5))
 | 0 => ⟨fun _ _ _ _ r h => by simp [spec_l8Things.f] at h, fun _ _ _ _ _ r h => by simp [spec_l8Things.j0] at h, fun _ _ _ _ _ _ r h => by simp [spec_l8Things.l0] at h⟩
 | k + 1 => by
  obtain ⟨ih0, ih1, ih2⟩ := spec_l8Things.mono_l k
  refine ⟨?_, ?_, ?_⟩
  ·
   intro y0 y1 y2 y3
   unfold spec_l8Things.f
   repeat' first
   | (with_reducible exact ih0 _ _ _ _)
   | (with_reducible exact ih1 _ _ _ _ _)
   | (with_reducible exact ih2 _ _ _ _ _ _)
   | (with_reducible exact LeO.refl _)
   | (with_reducible exact LeO.none _)
   | (with_reducible refine LeO.ite ?_ ?_)
   | (with_reducible refine LeO.bind ?_ (fun _ => ?_))
   | exact ih0 _ _ _ _
   | exact ih1 _ _ _ _ _
   | exact ih2 _ _ _ _ _ _
   | exact LeO.none _
   | refine LeO.ite ?_ ?_
   | refine LeO.bind ?_ (fun _ => ?_)
  ·
   intro y0 y1 y2 y3 y4
   unfold spec_l8Things.j0
   repeat' first
   | (with_reducible exact ih0 _ _ _ _)
   | (with_reducible exact ih1 _ _ _ _ _)
   | (with_reducible exact ih2 _ _ _ _ _ _)
   | (with_reducible exact LeO.refl _)
   | (with_reducible exact LeO.none _)
   | (with_reducible refine LeO.ite ?_ ?_)
   | (with_reducible refine LeO.bind ?_ (fun _ => ?_))
   | exact ih0 _ _ _ _
   | exact ih1 _ _ _ _ _
   | exact ih2 _ _ _ _ _ _
   | exact LeO.none _
   | refine LeO.ite ?_ ?_
   | refine LeO.bind ?_ (fun _ => ?_)
  ·
   intro y0 y1 y2 y3 y4 y5
   unfold spec_l8Things.l0
   repeat' first
   | (with_reducible exact ih0 _ _ _ _)
   | (with_reducible exact ih1 _ _ _ _ _)
   | (with_reducible exact ih2 _ _ _ _ _ _)
   | (with_reducible exact LeO.refl _)
   | (with_reducible exact LeO.none _)
   | (with_reducible refine LeO.ite ?_ ?_)
   | (with_reducible refine LeO.bind ?_ (fun _ => ?_))
   | exact ih0 _ _ _ _
   | exact ih1 _ _ _ _ _
   | exact ih2 _ _ _ _ _ _
   | exact LeO.none _
   | refine LeO.ite ?_ ?_
   | refine LeO.bind ?_ (fun _ => ?_)
theorem spec_l8Things.mono : ∀ a0 a1 a2 a3 k, LeO (spec_l8Things.f k a0 a1 a2 a3) (spec_l8Things.f (k + 1) a0 a1 a2 a3) := by
 intro a0 a1 a2 a3 k
 obtain ⟨ih0, ih1, ih2⟩ := spec_l8Things.mono_l k
 exact ih0 a0 a1 a2 a3
set_option maxHeartbeats 8000000 in
set_option maxRecDepth 100000 in
theorem spec_l8Things.calls (k : Nat) : ∀ (a0_0 : Int) (a0_1 : Int) (a0_2 : ByteArray) (A0_3 : Option Addr) (c0_3 : Nat) (l0_3 : List (S29)) (r : Int) (w : World) (hr0_3 : Kd.C k29 w A0_3 l0_3.length l0_3) (hc0_3 : l0_3.length ≤ c0_3) (h : spec_l8Things.f k a0_0 a0_1 a0_2 l0_3 = some r),
  Calls Try.prog 30 #[.agg #[.int .i64 a0_0, .int .i64 a0_1, .string a0_2, .slice A0_3 l0_3.length c0_3]] w fun e w' => e = .returned (.int .i64 r) ∧ Below w.heap.size w w' := by
 induction k using Nat.strongRecOn with
 | _ k ih =>
 intro a0_0 a0_1 a0_2 A0_3 c0_3 l0_3 r w hr0_3 hc0_3 h
 cases k with
 | zero => exact absurd h (by simp [spec_l8Things.f])
 | succ k =>
 simp only [spec_l8Things.f] at h
 have hu29 := Try.underlying29
 have HR0_3 := Aside0.mk hr0_3
 have HC0_3 := Aside0.mk hc0_3
 clear hr0_3 hc0_3
 have HB := Aside0.mk (Below.refl w.heap.size w)
 have H : (if a0_0 = 3 then (spec_l8Things.j0 k a0_1 a0_0 a0_1 a0_2 l0_3) else (spec_l8Things.j0 k (-1) a0_0 a0_1 a0_2 l0_3)) = some r := h
 clear h
 have HC2 := Aside0.mk H
 clear H
 go_enter Try.func30, Try.ntmps30
 go_upto_if 7 with (first | ((with_reducible refine gate_dst (N := 1) rfl ?_); refine bx 1 #[.int .i64 a0_0, .int .i64 a0_1, .string a0_2, .slice A0_3 l0_3.length c0_3] 29 ?_; intro gb131 hg w3 hbox hb; have BK131 := Aside0.mk (hbox); have GW131 := gwB HB hg; have GE131 := gwB HB hg; replace HB := bS HB hb; clear hb hbox hg; obtain ⟨hcz4_0, hcz4_1, hcz4_2, hcz4_3⟩ := cs4 BK131.out; obtain ⟨hfz4_0, hfz4_1, hfz4_2, hfz4_3⟩ := fz4 BK131.out))
 (try simp only [Act.put, List.setIfInBounds_toArray, List.set_cons_zero, List.set_cons_succ])
 go_cut [3] (fun v3 wc => ∃ (kq : Nat) (x3_1 : Int), v3 = .int .i64 x3_1 ∧ Aside0 (spec_l8Things.j0 kq x3_1 a0_0 a0_1 a0_2 l0_3 = some r) ∧ Aside0 (kq ≤ k) ∧ Aside0 (wc.heap[gb131]? = some (.cells #[.int .i64 a0_0, .int .i64 a0_1, .string a0_2, (.slice A0_3 l0_3.length c0_3)] 29 (0, 0))) ∧ Aside0 (Below w.heap.size w wc))
 case first =>
  have H := HC2.out
  clear HC2
  by_cases c5 : a0_0 = 3
  ·
   rw [if_pos c5] at H; obtain ⟨c5b0, c5b1⟩ := eqY c5; clear c5
   (first | rw [c5b0] | (simp only [i64_w, i32_w]; rw [c5b0]) | rw [c5b2] | rw [c5b1] | skip)
   have H' := Aside0.mk H
   clear H
   have hcz6_0 : w3.cell? ⟨gb131, 0, none⟩ = some (.int .i64 a0_0) := (blk_cell BK131.out 0).trans rfl
   have hcz6_1 : w3.cell? ⟨gb131, 1, none⟩ = some (.int .i64 a0_1) := (blk_cell BK131.out 1).trans rfl
   have hcz6_2 : w3.cell? ⟨gb131, 2, none⟩ = some (.string a0_2) := (blk_cell BK131.out 2).trans rfl
   have hcz6_3 : w3.cell? ⟨gb131, 3, none⟩ = some (.slice A0_3 l0_3.length c0_3) := (blk_cell BK131.out 3).trans rfl
   have hfz6_0 := blk_frozen BK131.out 0
   have hfz6_1 := blk_frozen BK131.out 1
   have hfz6_2 := blk_frozen BK131.out 2
   have hfz6_3 := blk_frozen BK131.out 3
   go_wp2
   go_meet
   case rel => exact ⟨_, (a0_1), (by first | rfl | (simp; done) | (simp [*]; done)), H', ⟨by first | omega | exact Nat.le_refl _⟩, ⟨by exact bk BK131.out⟩, ⟨by exact bw HB.out⟩⟩
  ·
   rw [if_neg c5] at H; obtain ⟨c5b0, c5b1⟩ := eqN c5
   (first | rw [c5b0] | (simp only [i64_w, i32_w]; rw [c5b0]) | rw [c5b2] | rw [c5b1] | skip)
   have H' := Aside0.mk H
   clear H
   go_wp2
   go_meet
   case rel => exact ⟨_, ((-1)), (by first | rfl | (simp; done) | (simp [*]; done)), H', ⟨by first | omega | exact Nat.le_refl _⟩, ⟨by exact bk BK131.out⟩, ⟨by exact bw HB.out⟩⟩
 case rest =>
  clear HC2
  try clear p2
  try clear c3
  try clear c5
  try clear c5b0
  try clear c5b1
  try clear c5b2
  try clear hcz4_0
  try clear hcz4_1
  try clear hcz4_2
  try clear hcz4_3
  try clear hcz6_0
  try clear hcz6_1
  try clear hcz6_2
  try clear hcz6_3
  try clear hfz4_0
  try clear hfz4_1
  try clear hfz4_2
  try clear hfz4_3
  try clear hfz6_0
  try clear hfz6_1
  try clear hfz6_2
  try clear hfz6_3
  obtain ⟨kq, x3_1, rfl, HA, HJ1, BK131, HB⟩ := hcut
  cases kq with
  | zero => exact absurd HA.out (by simp [spec_l8Things.j0])
  | succ kj1 =>
   have H := HA.out
   clear HA
   simp only [spec_l8Things.j0] at H
   have H' := Aside0.mk H
   clear H
   go_wp2
   go_loopg [3, 4] kj1 (fun kq v3 v4 w' => ∃ (x3_2 : Int) (x4_2 : Int), v3 = .int .i64 x3_2 ∧ v4 = .int .i64 x4_2 ∧ Aside0 (spec_l8Things.l0 kq x3_2 x4_2 a0_0 a0_1 a0_2 l0_3 = some r) ∧ Aside0 (kq ≤ kj1) ∧ Aside0 (w'.heap[gb131]? = some (.cells #[.int .i64 a0_0, .int .i64 a0_1, .string a0_2, (.slice A0_3 l0_3.length c0_3)] 29 (0, 0))) ∧ Aside0 (Below w.heap.size w w'))
   case atStart => exact ⟨(x3_1), (0), (by first | rfl | (simp; done) | (simp [*]; done)), (by first | rfl | (simp; done) | (simp [*]; done)), H', ⟨Nat.le_refl _⟩, ⟨by exact bk BK131.out⟩, ⟨by exact bw HB.out⟩⟩
   case round =>
    clear H'
    try clear p2
    try clear c3
    try clear c5
    try clear c5b0
    try clear c5b1
    try clear c5b2
    try clear hcz4_0
    try clear hcz4_1
    try clear hcz4_2
    try clear hcz4_3
    try clear hcz6_0
    try clear hcz6_1
    try clear hcz6_2
    try clear hcz6_3
    try clear hfz4_0
    try clear hfz4_1
    try clear hfz4_2
    try clear hfz4_3
    try clear hfz6_0
    try clear hfz6_1
    try clear hfz6_2
    try clear hfz6_3
    try clear p2
    obtain ⟨x3_2, x4_2, rfl, rfl, HA, HK2, BK131, HB⟩ := hrel
    cases gk with
    | zero => exact absurd HA.out (by simp [spec_l8Things.l0])
    | succ k2 =>
     have H := HA.out
     clear HA
     simp only [spec_l8Things.l0] at H
     by_cases c7 : x4_2 < (l0_3.length : Int)
     ·
      rw [if_pos c7] at H; have c7b0 : decide (x4_2 < (l0_3.length : Int)) = true := decide_eq_true c7; clear c7
      by_cases c8 : 0 ≤ x4_2
      ·
       rw [if_pos c8] at H; have c8b0 : decide (0 ≤ x4_2) = true := decide_eq_true c8; clear c8
       replace H := Option.bind_eq_some_iff.mp H
       obtain ⟨t133, A90, H⟩ := H
       replace H : (spec_l8Things.l0 k2 (mx x3_2 t133) (wrap64 (x4_2 + 1)) a0_0 a0_1 a0_2 l0_3) = some r := H
       have A9 := Aside0.mk A90
       clear A90
       obtain ⟨ji10, hji10⟩ : ∃ j_ : Int, (mx x3_2 t133) = j_ := ⟨_, rfl⟩
       replace H : (spec_l8Things.l0 k2 ji10 (wrap64 (x4_2 + 1)) a0_0 a0_1 a0_2 l0_3) = some r := by first | (rw [hji10] at H; exact H) | (simp only [hji10] at H ⊢; exact H)
       (try rw [hji10] at A9)
       have hji10_ : (if x3_2 < t133 then t133 else x3_2) = ji10 := hji10
       have H' := Aside0.mk H
       clear H
       have hcz11_0 : wr.cell? ⟨gb131, 0, none⟩ = some (.int .i64 a0_0) := (blk_cell BK131.out 0).trans rfl
       have hcz11_1 : wr.cell? ⟨gb131, 1, none⟩ = some (.int .i64 a0_1) := (blk_cell BK131.out 1).trans rfl
       have hcz11_2 : wr.cell? ⟨gb131, 2, none⟩ = some (.string a0_2) := (blk_cell BK131.out 2).trans rfl
       have hcz11_3 : wr.cell? ⟨gb131, 3, none⟩ = some (.slice A0_3 l0_3.length c0_3) := (blk_cell BK131.out 3).trans rfl
       have hfz11_0 := blk_frozen BK131.out 0
       have hfz11_1 := blk_frozen BK131.out 1
       have hfz11_2 := blk_frozen BK131.out 2
       have hfz11_3 := blk_frozen BK131.out 3
       have p132 : 0 ≤ (x4_2 : Int) := of_decide_eq_true (by first | (with_reducible assumption) | assumption)
       have q132 : x4_2 < (l0_3.length : Int) := of_decide_eq_true (by first | (with_reducible assumption) | assumption)
       obtain ⟨ad132, A132_3, c132_3, e132, hx132_0, hx132_1, hx132_2, hx132_3, hl132_3, hi132_3⟩ := at_T29 HR0_3.out x4_2 p132 q132
       cases e132
       first | replace hx132_0 := (HB.out.cell (World.block_lt_of_cell? w _ hx132_0)).trans hx132_0 | skip
       first | replace hx132_1 := (HB.out.cell (World.block_lt_of_cell? w _ hx132_1)).trans hx132_1 | skip
       first | replace hx132_2 := (HB.out.cell (World.block_lt_of_cell? w _ hx132_2)).trans hx132_2 | skip
       first | replace hx132_3 := (HB.out.cell (World.block_lt_of_cell? w _ hx132_3)).trans hx132_3 | skip
       have HR132_3 := Aside0.mk hi132_3
       have HC132_3 := Aside0.mk hl132_3
       clear hi132_3 hl132_3
       replace p132 := eq_true p132
       replace q132 := eq_true q132
       go_wp2_with (first | ((with_reducible refine gate_callee (f := 30) rfl ?_); refine gl (some 23) Try.func30 #[.agg #[.int .i64 ((rd_T29 l0_3 x4_2).f0), .int .i64 ((rd_T29 l0_3 x4_2).f1), .string ((rd_T29 l0_3 x4_2).f2), .slice A132_3 ((rd_T29 l0_3 x4_2).f3).length c132_3]] ?_; (with_reducible refine (ih k2 (by have := HJ1.out; have := HK2.out; omega) ((rd_T29 l0_3 x4_2).f0) ((rd_T29 l0_3 x4_2).f1) ((rd_T29 l0_3 x4_2).f2) _ _ ((rd_T29 l0_3 x4_2).f3) t133 _ ?side1 ?side2 A9.out).mono ?_); (case side1 => repeat (first | exact (Kd.C_below HR132_3.out HB.out) | (with_reducible refine Kd.C_alloc ?_ _) | (with_reducible refine Kd.C_drewN ?_ _) | (with_reducible refine Kd.C_drew ?_))); (case side2 => exact HC132_3.out); rintro e w12 ⟨rfl, hb⟩; refine ⟨_, rfl, ?_⟩; replace BK131 := bB BK131 hb; replace HB := bS HB hb; (try clear hb); (try clear hb2); (try clear hk); (try clear hi)))
       go_roundg k2
       case measure => have := HJ1.out; have := HK2.out; omega
       case rel => exact ⟨(ji10), (wrap64 (x4_2 + 1)), (by first | rfl | (simp; done) | (simp only [← hji10] <;> (first | rfl | simp)) | (simp [*]; done)), (by first | rfl | (simp; done) | (simp [*]; done)), H', ⟨by have := HJ1.out; have := HK2.out; omega⟩, ⟨by exact bk BK131.out⟩, ⟨by exact bw HB.out⟩⟩
      ·
       rw [if_neg c8] at H; exact absurd H (by simp)
     ·
      rw [if_neg c7] at H; have c7b0 : decide (x4_2 < (l0_3.length : Int)) = false := decide_eq_false c7; clear c7
      obtain rfl := Option.some.inj H
      have hcz13_0 : wr.cell? ⟨gb131, 0, none⟩ = some (.int .i64 a0_0) := (blk_cell BK131.out 0).trans rfl
      have hcz13_1 : wr.cell? ⟨gb131, 1, none⟩ = some (.int .i64 a0_1) := (blk_cell BK131.out 1).trans rfl
      have hcz13_2 : wr.cell? ⟨gb131, 2, none⟩ = some (.string a0_2) := (blk_cell BK131.out 2).trans rfl
      have hcz13_3 : wr.cell? ⟨gb131, 3, none⟩ = some (.slice A0_3 l0_3.length c0_3) := (blk_cell BK131.out 3).trans rfl
      have hfz13_0 := blk_frozen BK131.out 0
      have hfz13_1 := blk_frozen BK131.out 1
      have hfz13_2 := blk_frozen BK131.out 2
      have hfz13_3 := blk_frozen BK131.out 3
      go_wp2
      go_ret
      exact ⟨by first | rfl | (simp [errW_none, errW_some] <;> rfl) | (simp [*, errW_none, errW_some] <;> rfl), by exact bw HB.out⟩

/-! ### spec_ThingsUsed: function 8 -/
def spec_ThingsUsed.f (k : Nat) (a0_0 : Int) (a0_1 : Int) (a0_2 : ByteArray) (l0_3 : List (S29)) : Option (Int) := (spec_ExprValid.f k a0_0 a0_1 a0_2 l0_3).bind fun t135 => (if t135 = true then ((spec_l8Things.f k a0_0 a0_1 a0_2 l0_3).bind fun t136 => (some t136)) else (some (-1)))
theorem spec_ThingsUsed.mono : ∀ a0 a1 a2 a3 k, LeO (spec_ThingsUsed.f k a0 a1 a2 a3) (spec_ThingsUsed.f (k + 1) a0 a1 a2 a3) := by
 intro a0 a1 a2 a3 k
 unfold spec_ThingsUsed.f
 repeat' first
   | (with_reducible exact spec_ExprValid.mono _ _ _ _ _)
   | (with_reducible exact spec_l8Things.mono _ _ _ _ _)
   | (with_reducible exact LeO.refl _)
   | (with_reducible exact LeO.none _)
   | (with_reducible refine LeO.ite ?_ ?_)
   | (with_reducible refine LeO.bind ?_ (fun _ => ?_))
   | exact spec_ExprValid.mono _ _ _ _ _
   | exact spec_l8Things.mono _ _ _ _ _
   | exact LeO.none _
   | refine LeO.ite ?_ ?_
   | refine LeO.bind ?_ (fun _ => ?_)
set_option maxHeartbeats 8000000 in
set_option maxRecDepth 100000 in
theorem spec_ThingsUsed.calls (k : Nat) (a0_0 : Int) (a0_1 : Int) (a0_2 : ByteArray) (A0_3 : Option Addr) (c0_3 : Nat) (l0_3 : List (S29)) (r : Int) (w : World) (hr0_3 : Kd.C k29 w A0_3 l0_3.length l0_3) (hc0_3 : l0_3.length ≤ c0_3) (h : spec_ThingsUsed.f k a0_0 a0_1 a0_2 l0_3 = some r) :
  Calls Try.prog 8 #[.agg #[.int .i64 a0_0, .int .i64 a0_1, .string a0_2, .slice A0_3 l0_3.length c0_3]] w fun e w' => e = .returned (.int .i64 r) ∧ Below w.heap.size w w' := by
 have hu29 := Try.underlying29
 have HR0_3 := Aside0.mk hr0_3
 have HC0_3 := Aside0.mk hc0_3
 clear hr0_3 hc0_3
 have HB := Aside0.mk (Below.refl w.heap.size w)
 have H : ((spec_ExprValid.f k a0_0 a0_1 a0_2 l0_3).bind fun t135 => (if t135 = true then ((spec_l8Things.f k a0_0 a0_1 a0_2 l0_3).bind fun t136 => (some t136)) else (some (-1)))) = some r := h
 clear h
 replace H := Option.bind_eq_some_iff.mp H
 obtain ⟨t135, A20, H⟩ := H
 replace H : (if t135 = true then ((spec_l8Things.f k a0_0 a0_1 a0_2 l0_3).bind fun t136 => (some t136)) else (some (-1))) = some r := H
 have A2 := Aside0.mk A20
 clear A20
 by_cases c3 : t135 = true
 ·
  subst c3
  have H1 : ((spec_l8Things.f k a0_0 a0_1 a0_2 l0_3).bind fun t136 => (some t136)) = some r := by rw [if_pos rfl] at H; exact H
  clear H
  have H := H1
  clear H1
  replace H := Option.bind_eq_some_iff.mp H
  obtain ⟨t136, A40, H⟩ := H
  replace H : (some t136) = some r := H
  have A4 := Aside0.mk A40
  clear A40
  obtain rfl := Option.some.inj H
  go_enter Try.func8, Try.ntmps8
  go_wp2_with (first | ((with_reducible refine gate_dst (N := 1) rfl ?_); refine bx 1 #[.int .i64 a0_0, .int .i64 a0_1, .string a0_2, .slice A0_3 l0_3.length c0_3] 29 ?_; intro gb134 hg w5 hbox hb; have BK134 := Aside0.mk (hbox); have GW134 := gwB HB hg; have GE134 := gwB HB hg; replace HB := bS HB hb; clear hb hbox hg; obtain ⟨hcz6_0, hcz6_1, hcz6_2, hcz6_3⟩ := cs4 BK134.out; obtain ⟨hfz6_0, hfz6_1, hfz6_2, hfz6_3⟩ := fz4 BK134.out) | ((with_reducible refine gate_callee (f := 29) rfl ?_); refine gl (some 4) Try.func29 #[.agg #[.int .i64 a0_0, .int .i64 a0_1, .string a0_2, .slice A0_3 l0_3.length c0_3]] ?_; (with_reducible refine (spec_ExprValid.calls k a0_0 a0_1 a0_2 _ _ l0_3 true _ ?side1 ?side2 A2.out).mono ?_); (case side1 => repeat (first | exact (Kd.C_below HR0_3.out HB.out) | (with_reducible refine Kd.C_alloc ?_ _) | (with_reducible refine Kd.C_drewN ?_ _) | (with_reducible refine Kd.C_drew ?_))); (case side2 => exact HC0_3.out); rintro e w7 ⟨rfl, hb⟩; refine ⟨_, rfl, ?_⟩; replace BK134 := bB BK134 hb; replace HB := bS HB hb; (try clear hb); (try clear hb2); (try clear hk); (try clear hi); obtain ⟨hcz8_0, hcz8_1, hcz8_2, hcz8_3⟩ := cs4 BK134.out; obtain ⟨hfz8_0, hfz8_1, hfz8_2, hfz8_3⟩ := fz4 BK134.out) | ((with_reducible refine gate_callee (f := 30) rfl ?_); refine gl (some 7) Try.func30 #[.agg #[.int .i64 a0_0, .int .i64 a0_1, .string a0_2, .slice A0_3 l0_3.length c0_3]] ?_; (with_reducible refine (spec_l8Things.calls k a0_0 a0_1 a0_2 _ _ l0_3 t136 _ ?side1 ?side2 A4.out).mono ?_); (case side1 => repeat (first | exact (Kd.C_below HR0_3.out HB.out) | (with_reducible refine Kd.C_alloc ?_ _) | (with_reducible refine Kd.C_drewN ?_ _) | (with_reducible refine Kd.C_drew ?_))); (case side2 => exact HC0_3.out); rintro e w9 ⟨rfl, hb⟩; refine ⟨_, rfl, ?_⟩; replace BK134 := bB BK134 hb; replace HB := bS HB hb; (try clear hb); (try clear hb2); (try clear hk); (try clear hi)))
  go_ret
  exact ⟨by first | rfl | (simp [errW_none, errW_some] <;> rfl) | (simp [*, errW_none, errW_some] <;> rfl), by exact bw HB.out⟩
 ·
  replace c3 := Bool.eq_false_iff.mpr c3
  subst c3
  have H1 : (some (-1)) = some r := by rw [if_neg (show ¬ (false = true) by decide)] at H; exact H
  clear H
  have H := H1
  clear H1
  obtain rfl := Option.some.inj H
  go_enter Try.func8, Try.ntmps8
  go_wp2_with (first | ((with_reducible refine gate_dst (N := 1) rfl ?_); refine bx 1 #[.int .i64 a0_0, .int .i64 a0_1, .string a0_2, .slice A0_3 l0_3.length c0_3] 29 ?_; intro gb134 hg w10 hbox hb; have BK134 := Aside0.mk (hbox); have GW134 := gwB HB hg; have GE134 := gwB HB hg; replace HB := bS HB hb; clear hb hbox hg; obtain ⟨hcz11_0, hcz11_1, hcz11_2, hcz11_3⟩ := cs4 BK134.out; obtain ⟨hfz11_0, hfz11_1, hfz11_2, hfz11_3⟩ := fz4 BK134.out) | ((with_reducible refine gate_callee (f := 29) rfl ?_); refine gl (some 4) Try.func29 #[.agg #[.int .i64 a0_0, .int .i64 a0_1, .string a0_2, .slice A0_3 l0_3.length c0_3]] ?_; (with_reducible refine (spec_ExprValid.calls k a0_0 a0_1 a0_2 _ _ l0_3 false _ ?side1 ?side2 A2.out).mono ?_); (case side1 => repeat (first | exact (Kd.C_below HR0_3.out HB.out) | (with_reducible refine Kd.C_alloc ?_ _) | (with_reducible refine Kd.C_drewN ?_ _) | (with_reducible refine Kd.C_drew ?_))); (case side2 => exact HC0_3.out); rintro e w12 ⟨rfl, hb⟩; refine ⟨_, rfl, ?_⟩; replace BK134 := bB BK134 hb; replace HB := bS HB hb; (try clear hb); (try clear hb2); (try clear hk); (try clear hi)))
  go_ret
  exact ⟨by first | rfl | (simp [errW_none, errW_some] <;> rfl) | (simp [*, errW_none, errW_some] <;> rfl), by exact bw HB.out⟩

end Go.Proofs.Ytbbbgochcfccgaa.P
