-- Written by a program of this session (wip/tool).
import Derived.Test.YtjpeciodihnolaaPx0
import Derived.Test.YtjpeciodihnolaaPx1023
import Derived.Test.YtjpeciodihnolaaPx1050
namespace Go.Proofs.Ytjpeciodihnolaa.P
open Go.RowKit Go.Proofs.YtjpeciodihnolaaW.PrintWords Go.Proofs.YtjpeciodihnolaaW.PrintLast Go.Proofs.YtjpeciodihnolaaW.PrintMore
attribute [local go_sem] max2_int min2_int max_two min_two max_three min_three max_four min_four   -- for this text's walks alone
set_option linter.unusedVariables false
set_option linter.unusedSimpArgs false

/-! ### spec_l4Size: function 51 -/
mutual
def spec_l4Size.l0 : Nat → Int → Int → Int → Int → ByteArray → List (S25) → Option (Int)
 | 0, _, _, _, _, _, _ => none
 | k + 1, x3, x4, x418000, x418001, x418002, x418003 => if x4 < (x418003.length : Int) then (if 0 ≤ x4 then ((spec_l4Size.f k ((rd_T25 x418003 x4).f0) ((rd_T25 x418003 x4).f1) ((rd_T25 x418003 x4).f2) ((rd_T25 x418003 x4).f3)).bind fun t419 => (spec_l4Size.l0 k (wrap64 (x3 + t419)) (wrap64 (x4 + 1)) x418000 x418001 x418002 x418003)) else (none)) else (some x3)
def spec_l4Size.f : Nat → Int → Int → ByteArray → List (S25) → Option (Int)
 | 0, _, _, _, _ => none
 | k + 1, a0_0, a0_1, a0_2, l0_3 => spec_l4Size.l0 k 1 0 a0_0 a0_1 a0_2 l0_3
end
theorem spec_l4Size.mono_l : ∀ k, (∀ y0 y1 y2 y3, LeO (spec_l4Size.f k y0 y1 y2 y3) (spec_l4Size.f (k + 1) y0 y1 y2 y3)) ∧ (∀ y0 y1 y2 y3 y4 y5, LeO (spec_l4Size.l0 k y0 y1 y2 y3 y4 y5) (spec_l4Size.l0 (k + 1) y0 y1 y2 y3 y4 y5))
 | 0 => ⟨fun _ _ _ _ r h => by simp [spec_l4Size.f] at h, fun _ _ _ _ _ _ r h => by simp [spec_l4Size.l0] at h⟩
 | k + 1 => by
  obtain ⟨ih0, ih1⟩ := spec_l4Size.mono_l k
  refine ⟨?_, ?_⟩
  ·
   intro y0 y1 y2 y3
   unfold spec_l4Size.f
   repeat' first
   | (with_reducible exact ih0 _ _ _ _)
   | (with_reducible exact ih1 _ _ _ _ _ _)
   | (with_reducible exact LeO.refl _)
   | (with_reducible exact LeO.none _)
   | (with_reducible refine LeO.ite ?_ ?_)
   | (with_reducible refine LeO.bind ?_ (fun _ => ?_))
   | exact ih0 _ _ _ _
   | exact ih1 _ _ _ _ _ _
   | exact LeO.none _
   | refine LeO.ite ?_ ?_
   | refine LeO.bind ?_ (fun _ => ?_)
  ·
   intro y0 y1 y2 y3 y4 y5
   unfold spec_l4Size.l0
   repeat' first
   | (with_reducible exact ih0 _ _ _ _)
   | (with_reducible exact ih1 _ _ _ _ _ _)
   | (with_reducible exact LeO.refl _)
   | (with_reducible exact LeO.none _)
   | (with_reducible refine LeO.ite ?_ ?_)
   | (with_reducible refine LeO.bind ?_ (fun _ => ?_))
   | exact ih0 _ _ _ _
   | exact ih1 _ _ _ _ _ _
   | exact LeO.none _
   | refine LeO.ite ?_ ?_
   | refine LeO.bind ?_ (fun _ => ?_)
theorem spec_l4Size.mono : ∀ a0 a1 a2 a3 k, LeO (spec_l4Size.f k a0 a1 a2 a3) (spec_l4Size.f (k + 1) a0 a1 a2 a3) := by
 intro a0 a1 a2 a3 k
 obtain ⟨ih0, ih1⟩ := spec_l4Size.mono_l k
 exact ih0 a0 a1 a2 a3
set_option maxHeartbeats 8000000 in
set_option maxRecDepth 100000 in
theorem spec_l4Size.calls (k : Nat) : ∀ (a0_0 : Int) (a0_1 : Int) (a0_2 : ByteArray) (A0_3 : Option Addr) (c0_3 : Nat) (l0_3 : List (S25)) (r : Int) (w : World) (hr0_3 : Kd.C k25 w A0_3 l0_3.length l0_3) (hc0_3 : l0_3.length ≤ c0_3) (h : spec_l4Size.f k a0_0 a0_1 a0_2 l0_3 = some r),
  Calls Try.prog 51 #[.agg #[.int .i64 a0_0, .int .i64 a0_1, .string a0_2, .slice A0_3 l0_3.length c0_3]] w fun e w' => e = .returned (.int .i64 r) ∧ Below w.heap.size w w' := by
 induction k using Nat.strongRecOn with
 | _ k ih =>
 intro a0_0 a0_1 a0_2 A0_3 c0_3 l0_3 r w hr0_3 hc0_3 h
 cases k with
 | zero => exact absurd h (by simp [spec_l4Size.f])
 | succ k =>
 simp only [spec_l4Size.f] at h
 have hu25 := Try.underlying25
 have HR0_3 := Aside0.mk hr0_3
 have HC0_3 := Aside0.mk hc0_3
 clear hr0_3 hc0_3
 have HB := Aside0.mk (Below.refl w.heap.size w)
 have H : (spec_l4Size.l0 k 1 0 a0_0 a0_1 a0_2 l0_3) = some r := h
 clear h
 have H' := Aside0.mk H
 clear H
 go_enter Try.func51, Try.ntmps51
 go_wp2_with (first | ((with_reducible refine gate_dst (N := 1) rfl ?_); refine bx 1 #[.int .i64 a0_0, .int .i64 a0_1, .string a0_2, .slice A0_3 l0_3.length c0_3] 25 ?_; intro gb417 hg w2 hbox hb; have BK417 := Aside0.mk (hbox); have GW417 := gwB HB hg; have GE417 := gwB HB hg; replace HB := bS HB hb; clear hb hbox hg))
 go_loopg [3, 4] k (fun kq v3 v4 w' => ∃ (x3_1 : Int) (x4_1 : Int), v3 = .int .i64 x3_1 ∧ v4 = .int .i64 x4_1 ∧ Aside0 (spec_l4Size.l0 kq x3_1 x4_1 a0_0 a0_1 a0_2 l0_3 = some r) ∧ Aside0 (kq ≤ k) ∧ Aside0 (w'.heap[gb417]? = some (.cells #[.int .i64 a0_0, .int .i64 a0_1, .string a0_2, (.slice A0_3 l0_3.length c0_3)] 25 (0, 0))) ∧ Aside0 (Below w.heap.size w w'))
 case atStart => exact ⟨(1), (0), (by first | rfl | (simp; done) | (simp [*]; done)), (by first | rfl | (simp; done) | (simp [*]; done)), H', ⟨Nat.le_refl _⟩, ⟨by exact bk BK417.out⟩, ⟨by exact bw HB.out⟩⟩
 case round =>
  clear H'
  try clear p2
  obtain ⟨x3_1, x4_1, rfl, rfl, HA, HK1, BK417, HB⟩ := hrel
  cases gk with
  | zero => exact absurd HA.out (by simp [spec_l4Size.l0])
  | succ k1 =>
   have H := HA.out
   clear HA
   simp only [spec_l4Size.l0] at H
   by_cases c3 : x4_1 < (l0_3.length : Int)
   ·
    rw [if_pos c3] at H; have c3b0 : decide (x4_1 < (l0_3.length : Int)) = true := decide_eq_true c3; clear c3
    by_cases c4 : 0 ≤ x4_1
    ·
     rw [if_pos c4] at H; have c4b0 : decide (0 ≤ x4_1) = true := decide_eq_true c4; clear c4
     replace H := Option.bind_eq_some_iff.mp H
     obtain ⟨t419, A50, H⟩ := H
     replace H : (spec_l4Size.l0 k1 (wrap64 (x3_1 + t419)) (wrap64 (x4_1 + 1)) a0_0 a0_1 a0_2 l0_3) = some r := H
     have A5 := Aside0.mk A50
     clear A50
     have H' := Aside0.mk H
     clear H
     have hcz6_0 : wr.cell? ⟨gb417, 0, none⟩ = some (.int .i64 a0_0) := (blk_cell BK417.out 0).trans rfl
     have hcz6_1 : wr.cell? ⟨gb417, 1, none⟩ = some (.int .i64 a0_1) := (blk_cell BK417.out 1).trans rfl
     have hcz6_2 : wr.cell? ⟨gb417, 2, none⟩ = some (.string a0_2) := (blk_cell BK417.out 2).trans rfl
     have hcz6_3 : wr.cell? ⟨gb417, 3, none⟩ = some (.slice A0_3 l0_3.length c0_3) := (blk_cell BK417.out 3).trans rfl
     have hfz6_0 := blk_frozen BK417.out 0
     have hfz6_1 := blk_frozen BK417.out 1
     have hfz6_2 := blk_frozen BK417.out 2
     have hfz6_3 := blk_frozen BK417.out 3
     have p418 : 0 ≤ (x4_1 : Int) := of_decide_eq_true (by first | (with_reducible assumption) | assumption)
     have q418 : x4_1 < (l0_3.length : Int) := of_decide_eq_true (by first | (with_reducible assumption) | assumption)
     obtain ⟨ad418, A418_3, c418_3, e418, hx418_0, hx418_1, hx418_2, hx418_3, hl418_3, hi418_3⟩ := at_T25 HR0_3.out x4_1 p418 q418
     cases e418
     first | replace hx418_0 := (HB.out.cell (World.block_lt_of_cell? w _ hx418_0)).trans hx418_0 | skip
     first | replace hx418_1 := (HB.out.cell (World.block_lt_of_cell? w _ hx418_1)).trans hx418_1 | skip
     first | replace hx418_2 := (HB.out.cell (World.block_lt_of_cell? w _ hx418_2)).trans hx418_2 | skip
     first | replace hx418_3 := (HB.out.cell (World.block_lt_of_cell? w _ hx418_3)).trans hx418_3 | skip
     have HR418_3 := Aside0.mk hi418_3
     have HC418_3 := Aside0.mk hl418_3
     clear hi418_3 hl418_3
     replace p418 := eq_true p418
     replace q418 := eq_true q418
     go_wp2_with (first | ((with_reducible refine gate_callee (f := 51) rfl ?_); refine gl (some 18) Try.func51 #[.agg #[.int .i64 ((rd_T25 l0_3 x4_1).f0), .int .i64 ((rd_T25 l0_3 x4_1).f1), .string ((rd_T25 l0_3 x4_1).f2), .slice A418_3 ((rd_T25 l0_3 x4_1).f3).length c418_3]] ?_; (with_reducible refine (ih k1 (by have := HK1.out; omega) ((rd_T25 l0_3 x4_1).f0) ((rd_T25 l0_3 x4_1).f1) ((rd_T25 l0_3 x4_1).f2) _ _ ((rd_T25 l0_3 x4_1).f3) t419 _ ?side1 ?side2 A5.out).mono ?_); (case side1 => repeat (first | exact (Kd.C_below HR418_3.out HB.out) | (with_reducible refine Kd.C_alloc ?_ _) | (with_reducible refine Kd.C_drewN ?_ _) | (with_reducible refine Kd.C_drew ?_))); (case side2 => exact HC418_3.out); rintro e w7 ⟨rfl, hb⟩; refine ⟨_, rfl, ?_⟩; replace BK417 := bB BK417 hb; replace HB := bS HB hb; (try clear hb); (try clear hb2); (try clear hk); (try clear hi)))
     go_roundg k1
     case measure => have := HK1.out; omega
     case rel => exact ⟨(wrap64 (x3_1 + t419)), (wrap64 (x4_1 + 1)), (by first | rfl | (simp; done) | (simp [*]; done)), (by first | rfl | (simp; done) | (simp [*]; done)), H', ⟨by have := HK1.out; omega⟩, ⟨by exact bk BK417.out⟩, ⟨by exact bw HB.out⟩⟩
    ·
     rw [if_neg c4] at H; exact absurd H (by simp)
   ·
    rw [if_neg c3] at H; have c3b0 : decide (x4_1 < (l0_3.length : Int)) = false := decide_eq_false c3; clear c3
    obtain rfl := Option.some.inj H
    have hcz8_0 : wr.cell? ⟨gb417, 0, none⟩ = some (.int .i64 a0_0) := (blk_cell BK417.out 0).trans rfl
    have hcz8_1 : wr.cell? ⟨gb417, 1, none⟩ = some (.int .i64 a0_1) := (blk_cell BK417.out 1).trans rfl
    have hcz8_2 : wr.cell? ⟨gb417, 2, none⟩ = some (.string a0_2) := (blk_cell BK417.out 2).trans rfl
    have hcz8_3 : wr.cell? ⟨gb417, 3, none⟩ = some (.slice A0_3 l0_3.length c0_3) := (blk_cell BK417.out 3).trans rfl
    have hfz8_0 := blk_frozen BK417.out 0
    have hfz8_1 := blk_frozen BK417.out 1
    have hfz8_2 := blk_frozen BK417.out 2
    have hfz8_3 := blk_frozen BK417.out 3
    go_wp2
    go_ret
    exact ⟨by first | rfl | (simp [errW_none, errW_some] <;> rfl) | (simp [*, errW_none, errW_some] <;> rfl), by exact bw HB.out⟩

/-! ### spec_l4Deep: function 52 -/
mutual
def spec_l4Deep.l0 : Nat → Int → Int → Int → Int → ByteArray → List (S25) → Option (Int)
 | 0, _, _, _, _, _, _ => none
 | k + 1, x3, x4, x421000, x421001, x421002, x421003 => if x4 < (x421003.length : Int) then (if 0 ≤ x4 then ((spec_l4Deep.f k ((rd_T25 x421003 x4).f0) ((rd_T25 x421003 x4).f1) ((rd_T25 x421003 x4).f2) ((rd_T25 x421003 x4).f3)).bind fun t422 => (spec_l4Deep.l0 k (mx x3 t422) (wrap64 (x4 + 1)) x421000 x421001 x421002 x421003)) else (none)) else (some (wrap64 (x3 + 1)))
def spec_l4Deep.f : Nat → Int → Int → ByteArray → List (S25) → Option (Int)
 | 0, _, _, _, _ => none
 | k + 1, a0_0, a0_1, a0_2, l0_3 => spec_l4Deep.l0 k 0 0 a0_0 a0_1 a0_2 l0_3
end
theorem spec_l4Deep.mono_l : ∀ k, (∀ y0 y1 y2 y3, LeO (spec_l4Deep.f k y0 y1 y2 y3) (spec_l4Deep.f (k + 1) y0 y1 y2 y3)) ∧ (∀ y0 y1 y2 y3 y4 y5, LeO (spec_l4Deep.l0 k y0 y1 y2 y3 y4 y5) (spec_l4Deep.l0 (k + 1) y0 y1 y2 y3 y4 y5))
 | 0 => ⟨fun _ _ _ _ r h => by simp [spec_l4Deep.f] at h, fun _ _ _ _ _ _ r h => by simp [spec_l4Deep.l0] at h⟩
 | k + 1 => by
  obtain ⟨ih0, ih1⟩ := spec_l4Deep.mono_l k
  refine ⟨?_, ?_⟩
  ·
   intro y0 y1 y2 y3
   unfold spec_l4Deep.f
   repeat' first
   | (with_reducible exact ih0 _ _ _ _)
   | (with_reducible exact ih1 _ _ _ _ _ _)
   | (with_reducible exact LeO.refl _)
   | (with_reducible exact LeO.none _)
   | (with_reducible refine LeO.ite ?_ ?_)
   | (with_reducible refine LeO.bind ?_ (fun _ => ?_))
   | exact ih0 _ _ _ _
   | exact ih1 _ _ _ _ _ _
   | exact LeO.none _
   | refine LeO.ite ?_ ?_
   | refine LeO.bind ?_ (fun _ => ?_)
  ·
   intro y0 y1 y2 y3 y4 y5
   unfold spec_l4Deep.l0
   repeat' first
   | (with_reducible exact ih0 _ _ _ _)
   | (with_reducible exact ih1 _ _ _ _ _ _)
   | (with_reducible exact LeO.refl _)
   | (with_reducible exact LeO.none _)
   | (with_reducible refine LeO.ite ?_ ?_)
   | (with_reducible refine LeO.bind ?_ (fun _ => ?_))
   | exact ih0 _ _ _ _
   | exact ih1 _ _ _ _ _ _
   | exact LeO.none _
   | refine LeO.ite ?_ ?_
   | refine LeO.bind ?_ (fun _ => ?_)
theorem spec_l4Deep.mono : ∀ a0 a1 a2 a3 k, LeO (spec_l4Deep.f k a0 a1 a2 a3) (spec_l4Deep.f (k + 1) a0 a1 a2 a3) := by
 intro a0 a1 a2 a3 k
 obtain ⟨ih0, ih1⟩ := spec_l4Deep.mono_l k
 exact ih0 a0 a1 a2 a3
set_option maxHeartbeats 8000000 in
set_option maxRecDepth 100000 in
theorem spec_l4Deep.calls (k : Nat) : ∀ (a0_0 : Int) (a0_1 : Int) (a0_2 : ByteArray) (A0_3 : Option Addr) (c0_3 : Nat) (l0_3 : List (S25)) (r : Int) (w : World) (hr0_3 : Kd.C k25 w A0_3 l0_3.length l0_3) (hc0_3 : l0_3.length ≤ c0_3) (h : spec_l4Deep.f k a0_0 a0_1 a0_2 l0_3 = some r),
  Calls Try.prog 52 #[.agg #[.int .i64 a0_0, .int .i64 a0_1, .string a0_2, .slice A0_3 l0_3.length c0_3]] w fun e w' => e = .returned (.int .i64 r) ∧ Below w.heap.size w w' := by
 induction k using Nat.strongRecOn with
 | _ k ih =>
 intro a0_0 a0_1 a0_2 A0_3 c0_3 l0_3 r w hr0_3 hc0_3 h
 cases k with
 | zero => exact absurd h (by simp [spec_l4Deep.f])
 | succ k =>
 simp only [spec_l4Deep.f] at h
 have hu25 := Try.underlying25
 have HR0_3 := Aside0.mk hr0_3
 have HC0_3 := Aside0.mk hc0_3
 clear hr0_3 hc0_3
 have HB := Aside0.mk (Below.refl w.heap.size w)
 have H : (spec_l4Deep.l0 k 0 0 a0_0 a0_1 a0_2 l0_3) = some r := h
 clear h
 have H' := Aside0.mk H
 clear H
 go_enter Try.func52, Try.ntmps52
 go_wp2_with (first | ((with_reducible refine gate_dst (N := 1) rfl ?_); refine bx 1 #[.int .i64 a0_0, .int .i64 a0_1, .string a0_2, .slice A0_3 l0_3.length c0_3] 25 ?_; intro gb420 hg w2 hbox hb; have BK420 := Aside0.mk (hbox); have GW420 := gwB HB hg; have GE420 := gwB HB hg; replace HB := bS HB hb; clear hb hbox hg))
 go_loopg [3, 4] k (fun kq v3 v4 w' => ∃ (x3_1 : Int) (x4_1 : Int), v3 = .int .i64 x3_1 ∧ v4 = .int .i64 x4_1 ∧ Aside0 (spec_l4Deep.l0 kq x3_1 x4_1 a0_0 a0_1 a0_2 l0_3 = some r) ∧ Aside0 (kq ≤ k) ∧ Aside0 (w'.heap[gb420]? = some (.cells #[.int .i64 a0_0, .int .i64 a0_1, .string a0_2, (.slice A0_3 l0_3.length c0_3)] 25 (0, 0))) ∧ Aside0 (Below w.heap.size w w'))
 case atStart => exact ⟨(0), (0), (by first | rfl | (simp; done) | (simp [*]; done)), (by first | rfl | (simp; done) | (simp [*]; done)), H', ⟨Nat.le_refl _⟩, ⟨by exact bk BK420.out⟩, ⟨by exact bw HB.out⟩⟩
 case round =>
  clear H'
  try clear p2
  obtain ⟨x3_1, x4_1, rfl, rfl, HA, HK1, BK420, HB⟩ := hrel
  cases gk with
  | zero => exact absurd HA.out (by simp [spec_l4Deep.l0])
  | succ k1 =>
   have H := HA.out
   clear HA
   simp only [spec_l4Deep.l0] at H
   by_cases c3 : x4_1 < (l0_3.length : Int)
   ·
    rw [if_pos c3] at H; have c3b0 : decide (x4_1 < (l0_3.length : Int)) = true := decide_eq_true c3; clear c3
    by_cases c4 : 0 ≤ x4_1
    ·
     rw [if_pos c4] at H; have c4b0 : decide (0 ≤ x4_1) = true := decide_eq_true c4; clear c4
     replace H := Option.bind_eq_some_iff.mp H
     obtain ⟨t422, A50, H⟩ := H
     replace H : (spec_l4Deep.l0 k1 (mx x3_1 t422) (wrap64 (x4_1 + 1)) a0_0 a0_1 a0_2 l0_3) = some r := H
     have A5 := Aside0.mk A50
     clear A50
     obtain ⟨ji6, hji6⟩ : ∃ j_ : Int, (mx x3_1 t422) = j_ := ⟨_, rfl⟩
     replace H : (spec_l4Deep.l0 k1 ji6 (wrap64 (x4_1 + 1)) a0_0 a0_1 a0_2 l0_3) = some r := by first | (rw [hji6] at H; exact H) | (simp only [hji6] at H ⊢; exact H)
     (try rw [hji6] at A5)
     have hji6_ : (if x3_1 < t422 then t422 else x3_1) = ji6 := hji6
     have H' := Aside0.mk H
     clear H
     have hcz7_0 : wr.cell? ⟨gb420, 0, none⟩ = some (.int .i64 a0_0) := (blk_cell BK420.out 0).trans rfl
     have hcz7_1 : wr.cell? ⟨gb420, 1, none⟩ = some (.int .i64 a0_1) := (blk_cell BK420.out 1).trans rfl
     have hcz7_2 : wr.cell? ⟨gb420, 2, none⟩ = some (.string a0_2) := (blk_cell BK420.out 2).trans rfl
     have hcz7_3 : wr.cell? ⟨gb420, 3, none⟩ = some (.slice A0_3 l0_3.length c0_3) := (blk_cell BK420.out 3).trans rfl
     have hfz7_0 := blk_frozen BK420.out 0
     have hfz7_1 := blk_frozen BK420.out 1
     have hfz7_2 := blk_frozen BK420.out 2
     have hfz7_3 := blk_frozen BK420.out 3
     have p421 : 0 ≤ (x4_1 : Int) := of_decide_eq_true (by first | (with_reducible assumption) | assumption)
     have q421 : x4_1 < (l0_3.length : Int) := of_decide_eq_true (by first | (with_reducible assumption) | assumption)
     obtain ⟨ad421, A421_3, c421_3, e421, hx421_0, hx421_1, hx421_2, hx421_3, hl421_3, hi421_3⟩ := at_T25 HR0_3.out x4_1 p421 q421
     cases e421
     first | replace hx421_0 := (HB.out.cell (World.block_lt_of_cell? w _ hx421_0)).trans hx421_0 | skip
     first | replace hx421_1 := (HB.out.cell (World.block_lt_of_cell? w _ hx421_1)).trans hx421_1 | skip
     first | replace hx421_2 := (HB.out.cell (World.block_lt_of_cell? w _ hx421_2)).trans hx421_2 | skip
     first | replace hx421_3 := (HB.out.cell (World.block_lt_of_cell? w _ hx421_3)).trans hx421_3 | skip
     have HR421_3 := Aside0.mk hi421_3
     have HC421_3 := Aside0.mk hl421_3
     clear hi421_3 hl421_3
     replace p421 := eq_true p421
     replace q421 := eq_true q421
     go_wp2_with (first | ((with_reducible refine gate_callee (f := 52) rfl ?_); refine gl (some 18) Try.func52 #[.agg #[.int .i64 ((rd_T25 l0_3 x4_1).f0), .int .i64 ((rd_T25 l0_3 x4_1).f1), .string ((rd_T25 l0_3 x4_1).f2), .slice A421_3 ((rd_T25 l0_3 x4_1).f3).length c421_3]] ?_; (with_reducible refine (ih k1 (by have := HK1.out; omega) ((rd_T25 l0_3 x4_1).f0) ((rd_T25 l0_3 x4_1).f1) ((rd_T25 l0_3 x4_1).f2) _ _ ((rd_T25 l0_3 x4_1).f3) t422 _ ?side1 ?side2 A5.out).mono ?_); (case side1 => repeat (first | exact (Kd.C_below HR421_3.out HB.out) | (with_reducible refine Kd.C_alloc ?_ _) | (with_reducible refine Kd.C_drewN ?_ _) | (with_reducible refine Kd.C_drew ?_))); (case side2 => exact HC421_3.out); rintro e w8 ⟨rfl, hb⟩; refine ⟨_, rfl, ?_⟩; replace BK420 := bB BK420 hb; replace HB := bS HB hb; (try clear hb); (try clear hb2); (try clear hk); (try clear hi)))
     go_roundg k1
     case measure => have := HK1.out; omega
     case rel => exact ⟨(ji6), (wrap64 (x4_1 + 1)), (by first | rfl | (simp; done) | (simp only [← hji6] <;> (first | rfl | simp)) | (simp [*]; done)), (by first | rfl | (simp; done) | (simp [*]; done)), H', ⟨by have := HK1.out; omega⟩, ⟨by exact bk BK420.out⟩, ⟨by exact bw HB.out⟩⟩
    ·
     rw [if_neg c4] at H; exact absurd H (by simp)
   ·
    rw [if_neg c3] at H; have c3b0 : decide (x4_1 < (l0_3.length : Int)) = false := decide_eq_false c3; clear c3
    obtain rfl := Option.some.inj H
    have hcz9_0 : wr.cell? ⟨gb420, 0, none⟩ = some (.int .i64 a0_0) := (blk_cell BK420.out 0).trans rfl
    have hcz9_1 : wr.cell? ⟨gb420, 1, none⟩ = some (.int .i64 a0_1) := (blk_cell BK420.out 1).trans rfl
    have hcz9_2 : wr.cell? ⟨gb420, 2, none⟩ = some (.string a0_2) := (blk_cell BK420.out 2).trans rfl
    have hcz9_3 : wr.cell? ⟨gb420, 3, none⟩ = some (.slice A0_3 l0_3.length c0_3) := (blk_cell BK420.out 3).trans rfl
    have hfz9_0 := blk_frozen BK420.out 0
    have hfz9_1 := blk_frozen BK420.out 1
    have hfz9_2 := blk_frozen BK420.out 2
    have hfz9_3 := blk_frozen BK420.out 3
    go_wp2
    go_ret
    exact ⟨by first | rfl | (simp [errW_none, errW_some] <;> rfl) | (simp [*, errW_none, errW_some] <;> rfl), by exact bw HB.out⟩

/-! ### spec_ExprValid: function 26 -/
def spec_ExprValid.f (k : Nat) (a0_0 : Int) (a0_1 : Int) (a0_2 : ByteArray) (l0_3 : List (S25)) : Option (Bool) := (spec_l4Good.f k a0_0 a0_1 a0_2 l0_3).bind fun t424 => (if t424 = true then ((spec_l4Size.f k a0_0 a0_1 a0_2 l0_3).bind fun t425 => (if t425 ≤ 40 then ((spec_l4Deep.f k a0_0 a0_1 a0_2 l0_3).bind fun t426 => (some (decide (t426 ≤ 7)))) else (some false))) else (some false))
theorem spec_ExprValid.mono : ∀ a0 a1 a2 a3 k, LeO (spec_ExprValid.f k a0 a1 a2 a3) (spec_ExprValid.f (k + 1) a0 a1 a2 a3) := by
 intro a0 a1 a2 a3 k
 unfold spec_ExprValid.f
 repeat' first
   | (with_reducible exact spec_l4Deep.mono _ _ _ _ _)
   | (with_reducible exact spec_l4Good.mono _ _ _ _ _)
   | (with_reducible exact spec_l4Size.mono _ _ _ _ _)
   | (with_reducible exact LeO.refl _)
   | (with_reducible exact LeO.none _)
   | (with_reducible refine LeO.ite ?_ ?_)
   | (with_reducible refine LeO.bind ?_ (fun _ => ?_))
   | exact spec_l4Deep.mono _ _ _ _ _
   | exact spec_l4Good.mono _ _ _ _ _
   | exact spec_l4Size.mono _ _ _ _ _
   | exact LeO.none _
   | refine LeO.ite ?_ ?_
   | refine LeO.bind ?_ (fun _ => ?_)
set_option maxHeartbeats 8000000 in
set_option maxRecDepth 100000 in
theorem spec_ExprValid.calls (k : Nat) (a0_0 : Int) (a0_1 : Int) (a0_2 : ByteArray) (A0_3 : Option Addr) (c0_3 : Nat) (l0_3 : List (S25)) (r : Bool) (w : World) (hr0_3 : Kd.C k25 w A0_3 l0_3.length l0_3) (hc0_3 : l0_3.length ≤ c0_3) (h : spec_ExprValid.f k a0_0 a0_1 a0_2 l0_3 = some r) :
  Calls Try.prog 26 #[.agg #[.int .i64 a0_0, .int .i64 a0_1, .string a0_2, .slice A0_3 l0_3.length c0_3]] w fun e w' => e = .returned (.bool r) ∧ Below w.heap.size w w' := by
 have hu25 := Try.underlying25
 have HR0_3 := Aside0.mk hr0_3
 have HC0_3 := Aside0.mk hc0_3
 clear hr0_3 hc0_3
 have HB := Aside0.mk (Below.refl w.heap.size w)
 have H : ((spec_l4Good.f k a0_0 a0_1 a0_2 l0_3).bind fun t424 => (if t424 = true then ((spec_l4Size.f k a0_0 a0_1 a0_2 l0_3).bind fun t425 => (if t425 ≤ 40 then ((spec_l4Deep.f k a0_0 a0_1 a0_2 l0_3).bind fun t426 => (some (decide (t426 ≤ 7)))) else (some false))) else (some false))) = some r := h
 clear h
 replace H := Option.bind_eq_some_iff.mp H
 obtain ⟨t424, A20, H⟩ := H
 replace H : (if t424 = true then ((spec_l4Size.f k a0_0 a0_1 a0_2 l0_3).bind fun t425 => (if t425 ≤ 40 then ((spec_l4Deep.f k a0_0 a0_1 a0_2 l0_3).bind fun t426 => (some (decide (t426 ≤ 7)))) else (some false))) else (some false)) = some r := H
 have A2 := Aside0.mk A20
 clear A20
 by_cases c3 : t424 = true
 ·
  subst c3
  have H1 : ((spec_l4Size.f k a0_0 a0_1 a0_2 l0_3).bind fun t425 => (if t425 ≤ 40 then ((spec_l4Deep.f k a0_0 a0_1 a0_2 l0_3).bind fun t426 => (some (decide (t426 ≤ 7)))) else (some false))) = some r := by rw [if_pos rfl] at H; exact H
  clear H
  have H := H1
  clear H1
  replace H := Option.bind_eq_some_iff.mp H
  obtain ⟨t425, A40, H⟩ := H
  replace H : (if t425 ≤ 40 then ((spec_l4Deep.f k a0_0 a0_1 a0_2 l0_3).bind fun t426 => (some (decide (t426 ≤ 7)))) else (some false)) = some r := H
  have A4 := Aside0.mk A40
  clear A40
  by_cases c5 : t425 ≤ 40
  ·
   rw [if_pos c5] at H; have c5b0 : decide (t425 ≤ 40) = true := decide_eq_true c5; clear c5
   replace H := Option.bind_eq_some_iff.mp H
   obtain ⟨t426, A60, H⟩ := H
   replace H : (some (decide (t426 ≤ 7))) = some r := H
   have A6 := Aside0.mk A60
   clear A60
   obtain rfl := Option.some.inj H
   go_enter Try.func26, Try.ntmps26
   go_wp2_with (first | ((with_reducible refine gate_dst (N := 1) rfl ?_); refine bx 1 #[.int .i64 a0_0, .int .i64 a0_1, .string a0_2, .slice A0_3 l0_3.length c0_3] 25 ?_; intro gb423 hg w7 hbox hb; have BK423 := Aside0.mk (hbox); have GW423 := gwB HB hg; have GE423 := gwB HB hg; replace HB := bS HB hb; clear hb hbox hg; obtain ⟨hcz8_0, hcz8_1, hcz8_2, hcz8_3⟩ := cs4 BK423.out; obtain ⟨hfz8_0, hfz8_1, hfz8_2, hfz8_3⟩ := fz4 BK423.out) | ((with_reducible refine gate_callee (f := 50) rfl ?_); refine gl (some 4) Try.func50 #[.agg #[.int .i64 a0_0, .int .i64 a0_1, .string a0_2, .slice A0_3 l0_3.length c0_3]] ?_; (with_reducible refine (spec_l4Good.calls k a0_0 a0_1 a0_2 _ _ l0_3 true _ ?side1 ?side2 A2.out).mono ?_); (case side1 => repeat (first | exact (Kd.C_below HR0_3.out HB.out) | (with_reducible refine Kd.C_alloc ?_ _) | (with_reducible refine Kd.C_drewN ?_ _) | (with_reducible refine Kd.C_drew ?_))); (case side2 => exact HC0_3.out); rintro e w9 ⟨rfl, hb⟩; refine ⟨_, rfl, ?_⟩; replace BK423 := bB BK423 hb; replace HB := bS HB hb; (try clear hb); (try clear hb2); (try clear hk); (try clear hi); obtain ⟨hcz10_0, hcz10_1, hcz10_2, hcz10_3⟩ := cs4 BK423.out; obtain ⟨hfz10_0, hfz10_1, hfz10_2, hfz10_3⟩ := fz4 BK423.out) | (go_at_call 51; (with_reducible refine (spec_l4Size.calls k a0_0 a0_1 a0_2 _ _ l0_3 t425 _ ?side1 ?side2 A4.out).mono ?_); (case side1 => repeat (first | exact (Kd.C_below HR0_3.out HB.out) | (with_reducible refine Kd.C_alloc ?_ _) | (with_reducible refine Kd.C_drewN ?_ _) | (with_reducible refine Kd.C_drew ?_))); (case side2 => exact HC0_3.out); rintro e w11 ⟨rfl, hb⟩; have n0_ := bB BK423 hb; have n1_ := bS HB hb; clear BK423; clear HB; have BK423 := n0_; have HB := n1_; clear n0_ n1_; (try clear hb); (try clear hb2); (try clear hk); (try clear hi); obtain ⟨hcz12_0, hcz12_1, hcz12_2, hcz12_3⟩ := cs4 BK423.out; obtain ⟨hfz12_0, hfz12_1, hfz12_2, hfz12_3⟩ := fz4 BK423.out) | (go_at_call 52; (with_reducible refine (spec_l4Deep.calls k a0_0 a0_1 a0_2 _ _ l0_3 t426 _ ?side1 ?side2 A6.out).mono ?_); (case side1 => repeat (first | exact (Kd.C_below HR0_3.out HB.out) | (with_reducible refine Kd.C_alloc ?_ _) | (with_reducible refine Kd.C_drewN ?_ _) | (with_reducible refine Kd.C_drew ?_))); (case side2 => exact HC0_3.out); rintro e w13 ⟨rfl, hb⟩; have n0_ := bB BK423 hb; have n1_ := bS HB hb; clear BK423; clear HB; have BK423 := n0_; have HB := n1_; clear n0_ n1_; (try clear hb); (try clear hb2); (try clear hk); (try clear hi)))
   go_ret
   exact ⟨by first | rfl | (simp [errW_none, errW_some] <;> rfl) | (simp [*, errW_none, errW_some] <;> rfl), by exact bw HB.out⟩
  ·
   rw [if_neg c5] at H; have c5b0 : decide (t425 ≤ 40) = false := decide_eq_false c5; clear c5
   obtain rfl := Option.some.inj H
   go_enter Try.func26, Try.ntmps26
   go_wp2_with (first | ((with_reducible refine gate_dst (N := 1) rfl ?_); refine bx 1 #[.int .i64 a0_0, .int .i64 a0_1, .string a0_2, .slice A0_3 l0_3.length c0_3] 25 ?_; intro gb423 hg w14 hbox hb; have BK423 := Aside0.mk (hbox); have GW423 := gwB HB hg; have GE423 := gwB HB hg; replace HB := bS HB hb; clear hb hbox hg; obtain ⟨hcz15_0, hcz15_1, hcz15_2, hcz15_3⟩ := cs4 BK423.out; obtain ⟨hfz15_0, hfz15_1, hfz15_2, hfz15_3⟩ := fz4 BK423.out) | ((with_reducible refine gate_callee (f := 50) rfl ?_); refine gl (some 4) Try.func50 #[.agg #[.int .i64 a0_0, .int .i64 a0_1, .string a0_2, .slice A0_3 l0_3.length c0_3]] ?_; (with_reducible refine (spec_l4Good.calls k a0_0 a0_1 a0_2 _ _ l0_3 true _ ?side1 ?side2 A2.out).mono ?_); (case side1 => repeat (first | exact (Kd.C_below HR0_3.out HB.out) | (with_reducible refine Kd.C_alloc ?_ _) | (with_reducible refine Kd.C_drewN ?_ _) | (with_reducible refine Kd.C_drew ?_))); (case side2 => exact HC0_3.out); rintro e w16 ⟨rfl, hb⟩; refine ⟨_, rfl, ?_⟩; replace BK423 := bB BK423 hb; replace HB := bS HB hb; (try clear hb); (try clear hb2); (try clear hk); (try clear hi); obtain ⟨hcz17_0, hcz17_1, hcz17_2, hcz17_3⟩ := cs4 BK423.out; obtain ⟨hfz17_0, hfz17_1, hfz17_2, hfz17_3⟩ := fz4 BK423.out) | (go_at_call 51; (with_reducible refine (spec_l4Size.calls k a0_0 a0_1 a0_2 _ _ l0_3 t425 _ ?side1 ?side2 A4.out).mono ?_); (case side1 => repeat (first | exact (Kd.C_below HR0_3.out HB.out) | (with_reducible refine Kd.C_alloc ?_ _) | (with_reducible refine Kd.C_drewN ?_ _) | (with_reducible refine Kd.C_drew ?_))); (case side2 => exact HC0_3.out); rintro e w18 ⟨rfl, hb⟩; have n0_ := bB BK423 hb; have n1_ := bS HB hb; clear BK423; clear HB; have BK423 := n0_; have HB := n1_; clear n0_ n1_; (try clear hb); (try clear hb2); (try clear hk); (try clear hi)))
   go_ret
   exact ⟨by first | rfl | (simp [errW_none, errW_some] <;> rfl) | (simp [*, errW_none, errW_some] <;> rfl), by exact bw HB.out⟩
 ·
  replace c3 := Bool.eq_false_iff.mpr c3
  subst c3
  have H1 : (some false) = some r := by rw [if_neg (show ¬ (false = true) by decide)] at H; exact H
  clear H
  have H := H1
  clear H1
  obtain rfl := Option.some.inj H
  go_enter Try.func26, Try.ntmps26
  go_wp2_with (first | ((with_reducible refine gate_dst (N := 1) rfl ?_); refine bx 1 #[.int .i64 a0_0, .int .i64 a0_1, .string a0_2, .slice A0_3 l0_3.length c0_3] 25 ?_; intro gb423 hg w19 hbox hb; have BK423 := Aside0.mk (hbox); have GW423 := gwB HB hg; have GE423 := gwB HB hg; replace HB := bS HB hb; clear hb hbox hg; obtain ⟨hcz20_0, hcz20_1, hcz20_2, hcz20_3⟩ := cs4 BK423.out; obtain ⟨hfz20_0, hfz20_1, hfz20_2, hfz20_3⟩ := fz4 BK423.out) | ((with_reducible refine gate_callee (f := 50) rfl ?_); refine gl (some 4) Try.func50 #[.agg #[.int .i64 a0_0, .int .i64 a0_1, .string a0_2, .slice A0_3 l0_3.length c0_3]] ?_; (with_reducible refine (spec_l4Good.calls k a0_0 a0_1 a0_2 _ _ l0_3 false _ ?side1 ?side2 A2.out).mono ?_); (case side1 => repeat (first | exact (Kd.C_below HR0_3.out HB.out) | (with_reducible refine Kd.C_alloc ?_ _) | (with_reducible refine Kd.C_drewN ?_ _) | (with_reducible refine Kd.C_drew ?_))); (case side2 => exact HC0_3.out); rintro e w21 ⟨rfl, hb⟩; refine ⟨_, rfl, ?_⟩; replace BK423 := bB BK423 hb; replace HB := bS HB hb; (try clear hb); (try clear hb2); (try clear hk); (try clear hi)))
  go_ret
  exact ⟨by first | rfl | (simp [errW_none, errW_some] <;> rfl) | (simp [*, errW_none, errW_some] <;> rfl), by exact bw HB.out⟩

/-! ### spec_l8Things: function 27 -/
mutual
def spec_l8Things.j0 : Nat → Int → Int → Int → ByteArray → List (S25) → Option (Int)
 | 0, _, _, _, _, _ => none
 | k + 1, x3, x428000, x428001, x428002, x428003 => spec_l8Things.l0 k x3 0 x428000 x428001 x428002 x428003
def spec_l8Things.l0 : Nat → Int → Int → Int → Int → ByteArray → List (S25) → Option (Int)
 | 0, _, _, _, _, _, _ => none
 | k + 1, x3, x4, x428000, x428001, x428002, x428003 => if x4 < (x428003.length : Int) then (if 0 ≤ x4 then ((spec_l8Things.f k ((rd_T25 x428003 x4).f0) ((rd_T25 x428003 x4).f1) ((rd_T25 x428003 x4).f2) ((rd_T25 x428003 x4).f3)).bind fun t429 => (spec_l8Things.l0 k (mx x3 t429) (wrap64 (x4 + 1)) x428000 x428001 x428002 x428003)) else (none)) else (some x3)
def spec_l8Things.f : Nat → Int → Int → ByteArray → List (S25) → Option (Int)
 | 0, _, _, _, _ => none
 | k + 1, a0_0, a0_1, a0_2, l0_3 => if a0_0 = 3 then (spec_l8Things.j0 k a0_1 a0_0 a0_1 a0_2 l0_3) else (spec_l8Things.j0 k (-1) a0_0 a0_1 a0_2 l0_3)
end
theorem spec_l8Things.mono_l : ∀ k, (∀ y0 y1 y2 y3, LeO (spec_l8Things.f k y0 y1 y2 y3) (spec_l8Things.f (k + 1) y0 y1 y2 y3)) ∧ (∀ y0 y1 y2 y3 y4, LeO (spec_l8Things.j0 k y0 y1 y2 y3 y4) (spec_l8Things.j0 (k + 1) y0 y1 y2 y3 y4)) ∧ (∀ y0 y1 y2 y3 y4 y5, LeO (spec_l8Things.l0 k y0 y1 y2 y3 y4 y5) (spec_l8Things.l0 (k + 1) y0 y1 y2 y3 y4 y5))
 | 0 => ⟨fun _ _ _ _ r h => by simp [spec_l8Things.f] at h, fun _ _ _ _ _ r h => by simp [spec_l8Things.j0] at h, fun _ _ _ _ _ _ r h => by simp [spec_l8Things.l0] at h⟩
 | k + 1 => by
  obtain ⟨ih0, ih1, ih2⟩ := spec_l8Things.mono_l k
  refine ⟨?_, ?_, ?_⟩
  ·
   intro y0 y1 y2 y3
   unfold spec_l8Things.f
   repeat' first
   | (with_reducible exact ih0 _ _ _ _)
   | (with_reducible exact ih1 _ _ _ _ _)
   | (with_reducible exact ih2 _ _ _ _ _ _)
   | (with_reducible exact LeO.refl _)
   | (with_reducible exact LeO.none _)
   | (with_reducible refine LeO.ite ?_ ?_)
   | (with_reducible refine LeO.bind ?_ (fun _ => ?_))
   | exact ih0 _ _ _ _
   | exact ih1 _ _ _ _ _
   | exact ih2 _ _ _ _ _ _
   | exact LeO.none _
   | refine LeO.ite ?_ ?_
   | refine LeO.bind ?_ (fun _ => ?_)
  ·
   intro y0 y1 y2 y3 y4
   unfold spec_l8Things.j0
   repeat' first
   | (with_reducible exact ih0 _ _ _ _)
   | (with_reducible exact ih1 _ _ _ _ _)
   | (with_reducible exact ih2 _ _ _ _ _ _)
   | (with_reducible exact LeO.refl _)
   | (with_reducible exact LeO.none _)
   | (with_reducible refine LeO.ite ?_ ?_)
   | (with_reducible refine LeO.bind ?_ (fun _ => ?_))
   | exact ih0 _ _ _ _
   | exact ih1 _ _ _ _ _
   | exact ih2 _ _ _ _ _ _
   | exact LeO.none _
   | refine LeO.ite ?_ ?_
   | refine LeO.bind ?_ (fun _ => ?_)
  ·
   intro y0 y1 y2 y3 y4 y5
   unfold spec_l8Things.l0
   repeat' first
   | (with_reducible exact ih0 _ _ _ _)
   | (with_reducible exact ih1 _ _ _ _ _)
   | (with_reducible exact ih2 _ _ _ _ _ _)
   | (with_reducible exact LeO.refl _)
   | (with_reducible exact LeO.none _)
   | (with_reducible refine LeO.ite ?_ ?_)
   | (with_reducible refine LeO.bind ?_ (fun _ => ?_))
   | exact ih0 _ _ _ _
   | exact ih1 _ _ _ _ _
   | exact ih2 _ _ _ _ _ _
   | exact LeO.none _
   | refine LeO.ite ?_ ?_
   | refine LeO.bind ?_ (fun _ => ?_)
theorem spec_l8Things.mono : ∀ a0 a1 a2 a3 k, LeO (spec_l8Things.f k a0 a1 a2 a3) (spec_l8Things.f (k + 1) a0 a1 a2 a3) := by
 intro a0 a1 a2 a3 k
 obtain ⟨ih0, ih1, ih2⟩ := spec_l8Things.mono_l k
 exact ih0 a0 a1 a2 a3
set_option maxHeartbeats 8000000 in
set_option maxRecDepth 100000 in
theorem spec_l8Things.calls (k : Nat) : ∀ (a0_0 : Int) (a0_1 : Int) (a0_2 : ByteArray) (A0_3 : Option Addr) (c0_3 : Nat) (l0_3 : List (S25)) (r : Int) (w : World) (hr0_3 : Kd.C k25 w A0_3 l0_3.length l0_3) (hc0_3 : l0_3.length ≤ c0_3) (h : spec_l8Things.f k a0_0 a0_1 a0_2 l0_3 = some r),
  Calls Try.prog 27 #[.agg #[.int .i64 a0_0, .int .i64 a0_1, .string a0_2, .slice A0_3 l0_3.length c0_3]] w fun e w' => e = .returned (.int .i64 r) ∧ Below w.heap.size w w' := by
 induction k using Nat.strongRecOn with
 | _ k ih =>
 intro a0_0 a0_1 a0_2 A0_3 c0_3 l0_3 r w hr0_3 hc0_3 h
 cases k with
 | zero => exact absurd h (by simp [spec_l8Things.f])
 | succ k =>
 simp only [spec_l8Things.f] at h
 have hu25 := Try.underlying25
 have HR0_3 := Aside0.mk hr0_3
 have HC0_3 := Aside0.mk hc0_3
 clear hr0_3 hc0_3
 have HB := Aside0.mk (Below.refl w.heap.size w)
 have H : (if a0_0 = 3 then (spec_l8Things.j0 k a0_1 a0_0 a0_1 a0_2 l0_3) else (spec_l8Things.j0 k (-1) a0_0 a0_1 a0_2 l0_3)) = some r := h
 clear h
 have HC2 := Aside0.mk H
 clear H
 go_enter Try.func27, Try.ntmps27
 go_upto_if 7 with (first | ((with_reducible refine gate_dst (N := 1) rfl ?_); refine bx 1 #[.int .i64 a0_0, .int .i64 a0_1, .string a0_2, .slice A0_3 l0_3.length c0_3] 25 ?_; intro gb427 hg w3 hbox hb; have BK427 := Aside0.mk (hbox); have GW427 := gwB HB hg; have GE427 := gwB HB hg; replace HB := bS HB hb; clear hb hbox hg; obtain ⟨hcz4_0, hcz4_1, hcz4_2, hcz4_3⟩ := cs4 BK427.out; obtain ⟨hfz4_0, hfz4_1, hfz4_2, hfz4_3⟩ := fz4 BK427.out))
 (try simp only [Act.put, List.setIfInBounds_toArray, List.set_cons_zero, List.set_cons_succ])
 go_cut [3] (fun v3 wc => ∃ (kq : Nat) (x3_1 : Int), v3 = .int .i64 x3_1 ∧ Aside0 (spec_l8Things.j0 kq x3_1 a0_0 a0_1 a0_2 l0_3 = some r) ∧ Aside0 (kq ≤ k) ∧ Aside0 (wc.heap[gb427]? = some (.cells #[.int .i64 a0_0, .int .i64 a0_1, .string a0_2, (.slice A0_3 l0_3.length c0_3)] 25 (0, 0))) ∧ Aside0 (Below w.heap.size w wc))
 case first =>
  have H := HC2.out
  clear HC2
  by_cases c5 : a0_0 = 3
  ·
   rw [if_pos c5] at H; obtain ⟨c5b0, c5b1⟩ := eqY c5; clear c5
   (first | rw [c5b0] | (simp only [i64_w, i32_w]; rw [c5b0]) | rw [c5b2] | rw [c5b1] | skip)
   have H' := Aside0.mk H
   clear H
   have hcz6_0 : w3.cell? ⟨gb427, 0, none⟩ = some (.int .i64 a0_0) := (blk_cell BK427.out 0).trans rfl
   have hcz6_1 : w3.cell? ⟨gb427, 1, none⟩ = some (.int .i64 a0_1) := (blk_cell BK427.out 1).trans rfl
   have hcz6_2 : w3.cell? ⟨gb427, 2, none⟩ = some (.string a0_2) := (blk_cell BK427.out 2).trans rfl
   have hcz6_3 : w3.cell? ⟨gb427, 3, none⟩ = some (.slice A0_3 l0_3.length c0_3) := (blk_cell BK427.out 3).trans rfl
   have hfz6_0 := blk_frozen BK427.out 0
   have hfz6_1 := blk_frozen BK427.out 1
   have hfz6_2 := blk_frozen BK427.out 2
   have hfz6_3 := blk_frozen BK427.out 3
   go_wp2
   go_meet
   case rel => exact ⟨_, (a0_1), (by first | rfl | (simp; done) | (simp [*]; done)), H', ⟨by first | omega | exact Nat.le_refl _⟩, ⟨by exact bk BK427.out⟩, ⟨by exact bw HB.out⟩⟩
  ·
   rw [if_neg c5] at H; obtain ⟨c5b0, c5b1⟩ := eqN c5
   (first | rw [c5b0] | (simp only [i64_w, i32_w]; rw [c5b0]) | rw [c5b2] | rw [c5b1] | skip)
   have H' := Aside0.mk H
   clear H
   go_wp2
   go_meet
   case rel => exact ⟨_, ((-1)), (by first | rfl | (simp; done) | (simp [*]; done)), H', ⟨by first | omega | exact Nat.le_refl _⟩, ⟨by exact bk BK427.out⟩, ⟨by exact bw HB.out⟩⟩
 case rest =>
  clear HC2
  try clear c2
  try clear p2
  try clear c5
  try clear c5b0
  try clear c5b1
  try clear c5b2
  try clear hcz4_0
  try clear hcz4_1
  try clear hcz4_2
  try clear hcz4_3
  try clear hcz6_0
  try clear hcz6_1
  try clear hcz6_2
  try clear hcz6_3
  try clear hfz4_0
  try clear hfz4_1
  try clear hfz4_2
  try clear hfz4_3
  try clear hfz6_0
  try clear hfz6_1
  try clear hfz6_2
  try clear hfz6_3
  obtain ⟨kq, x3_1, rfl, HA, HJ1, BK427, HB⟩ := hcut
  cases kq with
  | zero => exact absurd HA.out (by simp [spec_l8Things.j0])
  | succ kj1 =>
   have H := HA.out
   clear HA
   simp only [spec_l8Things.j0] at H
   have H' := Aside0.mk H
   clear H
   go_wp2
   go_loopg [3, 4] kj1 (fun kq v3 v4 w' => ∃ (x3_2 : Int) (x4_2 : Int), v3 = .int .i64 x3_2 ∧ v4 = .int .i64 x4_2 ∧ Aside0 (spec_l8Things.l0 kq x3_2 x4_2 a0_0 a0_1 a0_2 l0_3 = some r) ∧ Aside0 (kq ≤ kj1) ∧ Aside0 (w'.heap[gb427]? = some (.cells #[.int .i64 a0_0, .int .i64 a0_1, .string a0_2, (.slice A0_3 l0_3.length c0_3)] 25 (0, 0))) ∧ Aside0 (Below w.heap.size w w'))
   case atStart => exact ⟨(x3_1), (0), (by first | rfl | (simp; done) | (simp [*]; done)), (by first | rfl | (simp; done) | (simp [*]; done)), H', ⟨Nat.le_refl _⟩, ⟨by exact bk BK427.out⟩, ⟨by exact bw HB.out⟩⟩
   case round =>
    clear H'
    try clear c2
    try clear p2
    try clear c5
    try clear c5b0
    try clear c5b1
    try clear c5b2
    try clear hcz4_0
    try clear hcz4_1
    try clear hcz4_2
    try clear hcz4_3
    try clear hcz6_0
    try clear hcz6_1
    try clear hcz6_2
    try clear hcz6_3
    try clear hfz4_0
    try clear hfz4_1
    try clear hfz4_2
    try clear hfz4_3
    try clear hfz6_0
    try clear hfz6_1
    try clear hfz6_2
    try clear hfz6_3
    try clear p2
    obtain ⟨x3_2, x4_2, rfl, rfl, HA, HK2, BK427, HB⟩ := hrel
    cases gk with
    | zero => exact absurd HA.out (by simp [spec_l8Things.l0])
    | succ k2 =>
     have H := HA.out
     clear HA
     simp only [spec_l8Things.l0] at H
     by_cases c7 : x4_2 < (l0_3.length : Int)
     ·
      rw [if_pos c7] at H; have c7b0 : decide (x4_2 < (l0_3.length : Int)) = true := decide_eq_true c7; clear c7
      by_cases c8 : 0 ≤ x4_2
      ·
       rw [if_pos c8] at H; have c8b0 : decide (0 ≤ x4_2) = true := decide_eq_true c8; clear c8
       replace H := Option.bind_eq_some_iff.mp H
       obtain ⟨t429, A90, H⟩ := H
       replace H : (spec_l8Things.l0 k2 (mx x3_2 t429) (wrap64 (x4_2 + 1)) a0_0 a0_1 a0_2 l0_3) = some r := H
       have A9 := Aside0.mk A90
       clear A90
       obtain ⟨ji10, hji10⟩ : ∃ j_ : Int, (mx x3_2 t429) = j_ := ⟨_, rfl⟩
       replace H : (spec_l8Things.l0 k2 ji10 (wrap64 (x4_2 + 1)) a0_0 a0_1 a0_2 l0_3) = some r := by first | (rw [hji10] at H; exact H) | (simp only [hji10] at H ⊢; exact H)
       (try rw [hji10] at A9)
       have hji10_ : (if x3_2 < t429 then t429 else x3_2) = ji10 := hji10
       have H' := Aside0.mk H
       clear H
       have hcz11_0 : wr.cell? ⟨gb427, 0, none⟩ = some (.int .i64 a0_0) := (blk_cell BK427.out 0).trans rfl
       have hcz11_1 : wr.cell? ⟨gb427, 1, none⟩ = some (.int .i64 a0_1) := (blk_cell BK427.out 1).trans rfl
       have hcz11_2 : wr.cell? ⟨gb427, 2, none⟩ = some (.string a0_2) := (blk_cell BK427.out 2).trans rfl
       have hcz11_3 : wr.cell? ⟨gb427, 3, none⟩ = some (.slice A0_3 l0_3.length c0_3) := (blk_cell BK427.out 3).trans rfl
       have hfz11_0 := blk_frozen BK427.out 0
       have hfz11_1 := blk_frozen BK427.out 1
       have hfz11_2 := blk_frozen BK427.out 2
       have hfz11_3 := blk_frozen BK427.out 3
       have p428 : 0 ≤ (x4_2 : Int) := of_decide_eq_true (by first | (with_reducible assumption) | assumption)
       have q428 : x4_2 < (l0_3.length : Int) := of_decide_eq_true (by first | (with_reducible assumption) | assumption)
       obtain ⟨ad428, A428_3, c428_3, e428, hx428_0, hx428_1, hx428_2, hx428_3, hl428_3, hi428_3⟩ := at_T25 HR0_3.out x4_2 p428 q428
       cases e428
       first | replace hx428_0 := (HB.out.cell (World.block_lt_of_cell? w _ hx428_0)).trans hx428_0 | skip
       first | replace hx428_1 := (HB.out.cell (World.block_lt_of_cell? w _ hx428_1)).trans hx428_1 | skip
       first | replace hx428_2 := (HB.out.cell (World.block_lt_of_cell? w _ hx428_2)).trans hx428_2 | skip
       first | replace hx428_3 := (HB.out.cell (World.block_lt_of_cell? w _ hx428_3)).trans hx428_3 | skip
       have HR428_3 := Aside0.mk hi428_3
       have HC428_3 := Aside0.mk hl428_3
       clear hi428_3 hl428_3
       replace p428 := eq_true p428
       replace q428 := eq_true q428
       go_wp2_with (first | ((with_reducible refine gate_callee (f := 27) rfl ?_); refine gl (some 23) Try.func27 #[.agg #[.int .i64 ((rd_T25 l0_3 x4_2).f0), .int .i64 ((rd_T25 l0_3 x4_2).f1), .string ((rd_T25 l0_3 x4_2).f2), .slice A428_3 ((rd_T25 l0_3 x4_2).f3).length c428_3]] ?_; (with_reducible refine (ih k2 (by have := HJ1.out; have := HK2.out; omega) ((rd_T25 l0_3 x4_2).f0) ((rd_T25 l0_3 x4_2).f1) ((rd_T25 l0_3 x4_2).f2) _ _ ((rd_T25 l0_3 x4_2).f3) t429 _ ?side1 ?side2 A9.out).mono ?_); (case side1 => repeat (first | exact (Kd.C_below HR428_3.out HB.out) | (with_reducible refine Kd.C_alloc ?_ _) | (with_reducible refine Kd.C_drewN ?_ _) | (with_reducible refine Kd.C_drew ?_))); (case side2 => exact HC428_3.out); rintro e w12 ⟨rfl, hb⟩; refine ⟨_, rfl, ?_⟩; replace BK427 := bB BK427 hb; replace HB := bS HB hb; (try clear hb); (try clear hb2); (try clear hk); (try clear hi)))
       go_roundg k2
       case measure => have := HJ1.out; have := HK2.out; omega
       case rel => exact ⟨(ji10), (wrap64 (x4_2 + 1)), (by first | rfl | (simp; done) | (simp only [← hji10] <;> (first | rfl | simp)) | (simp [*]; done)), (by first | rfl | (simp; done) | (simp [*]; done)), H', ⟨by have := HJ1.out; have := HK2.out; omega⟩, ⟨by exact bk BK427.out⟩, ⟨by exact bw HB.out⟩⟩
      ·
       rw [if_neg c8] at H; exact absurd H (by simp)
     ·
      rw [if_neg c7] at H; have c7b0 : decide (x4_2 < (l0_3.length : Int)) = false := decide_eq_false c7; clear c7
      obtain rfl := Option.some.inj H
      have hcz13_0 : wr.cell? ⟨gb427, 0, none⟩ = some (.int .i64 a0_0) := (blk_cell BK427.out 0).trans rfl
      have hcz13_1 : wr.cell? ⟨gb427, 1, none⟩ = some (.int .i64 a0_1) := (blk_cell BK427.out 1).trans rfl
      have hcz13_2 : wr.cell? ⟨gb427, 2, none⟩ = some (.string a0_2) := (blk_cell BK427.out 2).trans rfl
      have hcz13_3 : wr.cell? ⟨gb427, 3, none⟩ = some (.slice A0_3 l0_3.length c0_3) := (blk_cell BK427.out 3).trans rfl
      have hfz13_0 := blk_frozen BK427.out 0
      have hfz13_1 := blk_frozen BK427.out 1
      have hfz13_2 := blk_frozen BK427.out 2
      have hfz13_3 := blk_frozen BK427.out 3
      go_wp2
      go_ret
      exact ⟨by first | rfl | (simp [errW_none, errW_some] <;> rfl) | (simp [*, errW_none, errW_some] <;> rfl), by exact bw HB.out⟩

/-! ### spec_ThingsUsed: function 8 -/
def spec_ThingsUsed.f (k : Nat) (a0_0 : Int) (a0_1 : Int) (a0_2 : ByteArray) (l0_3 : List (S25)) : Option (Int) := (spec_ExprValid.f k a0_0 a0_1 a0_2 l0_3).bind fun t431 => (if t431 = true then ((spec_l8Things.f k a0_0 a0_1 a0_2 l0_3).bind fun t432 => (some t432)) else (some (-1)))
theorem spec_ThingsUsed.mono : ∀ a0 a1 a2 a3 k, LeO (spec_ThingsUsed.f k a0 a1 a2 a3) (spec_ThingsUsed.f (k + 1) a0 a1 a2 a3) := by
 intro a0 a1 a2 a3 k
 unfold spec_ThingsUsed.f
 repeat' first
   | (with_reducible exact spec_ExprValid.mono _ _ _ _ _)
   | (with_reducible exact spec_l8Things.mono _ _ _ _ _)
   | (with_reducible exact LeO.refl _)
   | (with_reducible exact LeO.none _)
   | (with_reducible refine LeO.ite ?_ ?_)
   | (with_reducible refine LeO.bind ?_ (fun _ => ?_))
   | exact spec_ExprValid.mono _ _ _ _ _
   | exact spec_l8Things.mono _ _ _ _ _
   | exact LeO.none _
   | refine LeO.ite ?_ ?_
   | refine LeO.bind ?_ (fun _ => ?_)
set_option maxHeartbeats 8000000 in
set_option maxRecDepth 100000 in
theorem spec_ThingsUsed.calls (k : Nat) (a0_0 : Int) (a0_1 : Int) (a0_2 : ByteArray) (A0_3 : Option Addr) (c0_3 : Nat) (l0_3 : List (S25)) (r : Int) (w : World) (hr0_3 : Kd.C k25 w A0_3 l0_3.length l0_3) (hc0_3 : l0_3.length ≤ c0_3) (h : spec_ThingsUsed.f k a0_0 a0_1 a0_2 l0_3 = some r) :
  Calls Try.prog 8 #[.agg #[.int .i64 a0_0, .int .i64 a0_1, .string a0_2, .slice A0_3 l0_3.length c0_3]] w fun e w' => e = .returned (.int .i64 r) ∧ Below w.heap.size w w' := by
 have hu25 := Try.underlying25
 have HR0_3 := Aside0.mk hr0_3
 have HC0_3 := Aside0.mk hc0_3
 clear hr0_3 hc0_3
 have HB := Aside0.mk (Below.refl w.heap.size w)
 have H : ((spec_ExprValid.f k a0_0 a0_1 a0_2 l0_3).bind fun t431 => (if t431 = true then ((spec_l8Things.f k a0_0 a0_1 a0_2 l0_3).bind fun t432 => (some t432)) else (some (-1)))) = some r := h
 clear h
 replace H := Option.bind_eq_some_iff.mp H
 obtain ⟨t431, A20, H⟩ := H
 replace H : (if t431 = true then ((spec_l8Things.f k a0_0 a0_1 a0_2 l0_3).bind fun t432 => (some t432)) else (some (-1))) = some r := H
 have A2 := Aside0.mk A20
 clear A20
 by_cases c3 : t431 = true
 ·
  subst c3
  have H1 : ((spec_l8Things.f k a0_0 a0_1 a0_2 l0_3).bind fun t432 => (some t432)) = some r := by rw [if_pos rfl] at H; exact H
  clear H
  have H := H1
  clear H1
  replace H := Option.bind_eq_some_iff.mp H
  obtain ⟨t432, A40, H⟩ := H
  replace H : (some t432) = some r := H
  have A4 := Aside0.mk A40
  clear A40
  obtain rfl := Option.some.inj H
  go_enter Try.func8, Try.ntmps8
  go_wp2_with (first | ((with_reducible refine gate_dst (N := 1) rfl ?_); refine bx 1 #[.int .i64 a0_0, .int .i64 a0_1, .string a0_2, .slice A0_3 l0_3.length c0_3] 25 ?_; intro gb430 hg w5 hbox hb; have BK430 := Aside0.mk (hbox); have GW430 := gwB HB hg; have GE430 := gwB HB hg; replace HB := bS HB hb; clear hb hbox hg; obtain ⟨hcz6_0, hcz6_1, hcz6_2, hcz6_3⟩ := cs4 BK430.out; obtain ⟨hfz6_0, hfz6_1, hfz6_2, hfz6_3⟩ := fz4 BK430.out) | ((with_reducible refine gate_callee (f := 26) rfl ?_); refine gl (some 4) Try.func26 #[.agg #[.int .i64 a0_0, .int .i64 a0_1, .string a0_2, .slice A0_3 l0_3.length c0_3]] ?_; (with_reducible refine (spec_ExprValid.calls k a0_0 a0_1 a0_2 _ _ l0_3 true _ ?side1 ?side2 A2.out).mono ?_); (case side1 => repeat (first | exact (Kd.C_below HR0_3.out HB.out) | (with_reducible refine Kd.C_alloc ?_ _) | (with_reducible refine Kd.C_drewN ?_ _) | (with_reducible refine Kd.C_drew ?_))); (case side2 => exact HC0_3.out); rintro e w7 ⟨rfl, hb⟩; refine ⟨_, rfl, ?_⟩; replace BK430 := bB BK430 hb; replace HB := bS HB hb; (try clear hb); (try clear hb2); (try clear hk); (try clear hi); obtain ⟨hcz8_0, hcz8_1, hcz8_2, hcz8_3⟩ := cs4 BK430.out; obtain ⟨hfz8_0, hfz8_1, hfz8_2, hfz8_3⟩ := fz4 BK430.out) | ((with_reducible refine gate_callee (f := 27) rfl ?_); refine gl (some 7) Try.func27 #[.agg #[.int .i64 a0_0, .int .i64 a0_1, .string a0_2, .slice A0_3 l0_3.length c0_3]] ?_; (with_reducible refine (spec_l8Things.calls k a0_0 a0_1 a0_2 _ _ l0_3 t432 _ ?side1 ?side2 A4.out).mono ?_); (case side1 => repeat (first | exact (Kd.C_below HR0_3.out HB.out) | (with_reducible refine Kd.C_alloc ?_ _) | (with_reducible refine Kd.C_drewN ?_ _) | (with_reducible refine Kd.C_drew ?_))); (case side2 => exact HC0_3.out); rintro e w9 ⟨rfl, hb⟩; refine ⟨_, rfl, ?_⟩; replace BK430 := bB BK430 hb; replace HB := bS HB hb; (try clear hb); (try clear hb2); (try clear hk); (try clear hi)))
  go_ret
  exact ⟨by first | rfl | (simp [errW_none, errW_some] <;> rfl) | (simp [*, errW_none, errW_some] <;> rfl), by exact bw HB.out⟩
 ·
  replace c3 := Bool.eq_false_iff.mpr c3
  subst c3
  have H1 : (some (-1)) = some r := by rw [if_neg (show ¬ (false = true) by decide)] at H; exact H
  clear H
  have H := H1
  clear H1
  obtain rfl := Option.some.inj H
  go_enter Try.func8, Try.ntmps8
  go_wp2_with (first | ((with_reducible refine gate_dst (N := 1) rfl ?_); refine bx 1 #[.int .i64 a0_0, .int .i64 a0_1, .string a0_2, .slice A0_3 l0_3.length c0_3] 25 ?_; intro gb430 hg w10 hbox hb; have BK430 := Aside0.mk (hbox); have GW430 := gwB HB hg; have GE430 := gwB HB hg; replace HB := bS HB hb; clear hb hbox hg; obtain ⟨hcz11_0, hcz11_1, hcz11_2, hcz11_3⟩ := cs4 BK430.out; obtain ⟨hfz11_0, hfz11_1, hfz11_2, hfz11_3⟩ := fz4 BK430.out) | ((with_reducible refine gate_callee (f := 26) rfl ?_); refine gl (some 4) Try.func26 #[.agg #[.int .i64 a0_0, .int .i64 a0_1, .string a0_2, .slice A0_3 l0_3.length c0_3]] ?_; (with_reducible refine (spec_ExprValid.calls k a0_0 a0_1 a0_2 _ _ l0_3 false _ ?side1 ?side2 A2.out).mono ?_); (case side1 => repeat (first | exact (Kd.C_below HR0_3.out HB.out) | (with_reducible refine Kd.C_alloc ?_ _) | (with_reducible refine Kd.C_drewN ?_ _) | (with_reducible refine Kd.C_drew ?_))); (case side2 => exact HC0_3.out); rintro e w12 ⟨rfl, hb⟩; refine ⟨_, rfl, ?_⟩; replace BK430 := bB BK430 hb; replace HB := bS HB hb; (try clear hb); (try clear hb2); (try clear hk); (try clear hi)))
  go_ret
  exact ⟨by first | rfl | (simp [errW_none, errW_some] <;> rfl) | (simp [*, errW_none, errW_some] <;> rfl), by exact bw HB.out⟩

/-! ### laws_alive: function 10 -/
def laws_alive.f (k : Nat)  : Option (Bool) := (impl_NameValid.f k (⟨#[97]⟩ : ByteArray)).bind fun t433 => (some t433)
theorem laws_alive.mono : ∀ k, LeO (laws_alive.f k ) (laws_alive.f (k + 1) ) := by
 intro  k
 unfold laws_alive.f
 repeat' first
   | (with_reducible exact impl_NameValid.mono _ _)
   | (with_reducible exact LeO.refl _)
   | (with_reducible exact LeO.none _)
   | (with_reducible refine LeO.ite ?_ ?_)
   | (with_reducible refine LeO.bind ?_ (fun _ => ?_))
   | exact impl_NameValid.mono _ _
   | exact LeO.none _
   | refine LeO.ite ?_ ?_
   | refine LeO.bind ?_ (fun _ => ?_)
set_option maxHeartbeats 8000000 in
set_option maxRecDepth 100000 in
theorem laws_alive.calls (k : Nat)  (r : Bool) (w : World) (h : laws_alive.f k  = some r) :
  Calls Try.prog 10 #[] w fun e w' => e = .returned (.bool r) ∧ Drawn0 w w' := by
 have H : ((impl_NameValid.f k (⟨#[97]⟩ : ByteArray)).bind fun t433 => (some t433)) = some r := h
 clear h
 replace H := Option.bind_eq_some_iff.mp H
 obtain ⟨t433, A10, H⟩ := H
 replace H : (some t433) = some r := H
 have A1 := Aside0.mk A10
 clear A10
 obtain rfl := Option.some.inj H
 go_enter Try.func10, Try.ntmps10
 go_wp2_with (first | ((with_reducible refine gate_callee (f := 30) rfl ?_); refine gl (some 1) Try.func30 #[.string (⟨#[97]⟩ : ByteArray)] ?_; (with_reducible refine (impl_NameValid.calls k (⟨#[97]⟩ : ByteArray) t433 _ A1.out).mono ?_); rintro e w' ⟨rfl, ⟨nd, rfl⟩⟩; refine ⟨_, rfl, ?_⟩))
 go_ret
 exact ⟨by first | rfl | (simp; done) | (simp [*]; done), by repeat (first | exact Drawn0.refl _ | apply Drawn0.step)⟩

end Go.Proofs.Ytjpeciodihnolaa.P
