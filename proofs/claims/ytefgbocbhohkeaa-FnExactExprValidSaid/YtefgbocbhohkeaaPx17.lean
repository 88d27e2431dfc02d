-- Written by a program of this session (wip/tool).
import Derived.Test.YtefgbocbhohkeaaPx0
import Derived.Test.YtefgbocbhohkeaaPx16
namespace Go.Proofs.Ytefgbocbhohkeaa.P
open Go.RowKit Go.Proofs.YtefgbocbhohkeaaW.PrintWords Go.Proofs.YtefgbocbhohkeaaW.PrintLast Go.Proofs.YtefgbocbhohkeaaW.PrintMore
attribute [local go_sem] max2_int min2_int max_two min_two max_three min_three max_four min_four   -- for this text's walks alone
set_option linter.unusedVariables false
set_option linter.unusedSimpArgs false

/-! ### spec_l4Size: function 56 -/
mutual
def spec_l4Size.l0 : Nat → Int → Int → Int → Int → ByteArray → List (S54) → Option (Int)
 | 0, _, _, _, _, _, _ => none
 | k + 1, x3, x4, x445000, x445001, x445002, x445003 => if x4 < (x445003.length : Int) then (if 0 ≤ x4 then ((spec_l4Size.f k ((rd_T54 x445003 x4).f0) ((rd_T54 x445003 x4).f1) ((rd_T54 x445003 x4).f2) ((rd_T54 x445003 x4).f3)).bind fun t446 => (spec_l4Size.l0 k (wrap64 (x3 + t446)) (wrap64 (x4 + 1)) x445000 x445001 x445002 x445003)) else (none)) else (some x3)
def spec_l4Size.f : Nat → Int → Int → ByteArray → List (S54) → Option (Int)
 | 0, _, _, _, _ => none
 | k + 1, a0_0, a0_1, a0_2, l0_3 => spec_l4Size.l0 k 1 0 a0_0 a0_1 a0_2 l0_3
end
theorem spec_l4Size.mono_l : ∀ k, (∀ y0 y1 y2 y3, LeO (spec_l4Size.f k y0 y1 y2 y3) (spec_l4Size.f (k + 1) y0 y1 y2 y3)) ∧ (∀ y0 y1 y2 y3 y4 y5, LeO (spec_l4Size.l0 k y0 y1 y2 y3 y4 y5) (spec_l4Size.l0 (k + 1) y0 y1 y2 y3 y4 y5))
 | 0 => ⟨fun _ _ _ _ r h => by simp [spec_l4Size.f] at h, fun _ _ _ _ _ _ r h => by simp [spec_l4Size.l0] at h⟩
 | k + 1 => by
  obtain ⟨ih0, ih1⟩ := spec_l4Size.mono_l k
  refine ⟨?_, ?_⟩
  ·
   intro y0 y1 y2 y3
   unfold spec_l4Size.f
   repeat' first
   | (with_reducible exact ih0 _ _ _ _)
   | (with_reducible exact ih1 _ _ _ _ _ _)
   | (with_reducible exact LeO.refl _)
   | (with_reducible exact LeO.none _)
   | (with_reducible refine LeO.ite ?_ ?_)
   | (with_reducible refine LeO.bind ?_ (fun _ => ?_))
   | exact ih0 _ _ _ _
   | exact ih1 _ _ _ _ _ _
   | exact LeO.none _
   | refine LeO.ite ?_ ?_
   | refine LeO.bind ?_ (fun _ => ?_)
  ·
   intro y0 y1 y2 y3 y4 y5
   unfold spec_l4Size.l0
   repeat' first
   | (with_reducible exact ih0 _ _ _ _)
   | (with_reducible exact ih1 _ _ _ _ _ _)
   | (with_reducible exact LeO.refl _)
   | (with_reducible exact LeO.none _)
   | (with_reducible refine LeO.ite ?_ ?_)
   | (with_reducible refine LeO.bind ?_ (fun _ => ?_))
   | exact ih0 _ _ _ _
   | exact ih1 _ _ _ _ _ _
   | exact LeO.none _
   | refine LeO.ite ?_ ?_
   | refine LeO.bind ?_ (fun _ => ?_)
theorem spec_l4Size.mono : ∀ a0 a1 a2 a3 k, LeO (spec_l4Size.f k a0 a1 a2 a3) (spec_l4Size.f (k + 1) a0 a1 a2 a3) := by
 intro a0 a1 a2 a3 k
 obtain ⟨ih0, ih1⟩ := spec_l4Size.mono_l k
 exact ih0 a0 a1 a2 a3
set_option maxHeartbeats 8000000 in
set_option maxRecDepth 100000 in
theorem spec_l4Size.calls (k : Nat) : ∀ (a0_0 : Int) (a0_1 : Int) (a0_2 : ByteArray) (A0_3 : Option Addr) (c0_3 : Nat) (l0_3 : List (S54)) (r : Int) (w : World) (hr0_3 : Kd.C k54 w A0_3 l0_3.length l0_3) (hc0_3 : l0_3.length ≤ c0_3) (h : spec_l4Size.f k a0_0 a0_1 a0_2 l0_3 = some r),
  Calls Try.prog 56 #[.agg #[.int .i64 a0_0, .int .i64 a0_1, .string a0_2, .slice A0_3 l0_3.length c0_3]] w fun e w' => e = .returned (.int .i64 r) ∧ Below w.heap.size w w' := by
 induction k using Nat.strongRecOn with
 | _ k ih =>
 intro a0_0 a0_1 a0_2 A0_3 c0_3 l0_3 r w hr0_3 hc0_3 h
 cases k with
 | zero => exact absurd h (by simp [spec_l4Size.f])
 | succ k =>
 simp only [spec_l4Size.f] at h
 have hu54 := Try.underlying54
 have HR0_3 := Aside0.mk hr0_3
 have HC0_3 := Aside0.mk hc0_3
 clear hr0_3 hc0_3
 have HB := Aside0.mk (Below.refl w.heap.size w)
 have H : (spec_l4Size.l0 k 1 0 a0_0 a0_1 a0_2 l0_3) = some r := h
 clear h
 have H' := Aside0.mk H
 clear H
 go_enter Try.func56, Try.ntmps56
 go_wp2_with (first | ((with_reducible refine gate_dst (N := 1) rfl ?_); refine box_event ?hg (N := 1) ?hd (cs := #[.int .i64 a0_0, .int .i64 a0_1, .string a0_2, .slice A0_3 l0_3.length c0_3]) (t := 54) ?hr ?_; (case hd => rfl); (case hg => rfl); (case hr => first | (go_simp; done) | (go_simp; rfl)); intro gb444 hg w2 hbox hb; have n0_ := Aside0.mk (below_step (by exact bw HB.out) hb); have n1_ := Aside0.mk (hbox); have n2_ := Aside0.mk ((by rw [hg]; exact (below_size (by exact bw HB.out)) : w.heap.size ≤ gb444)); have n3_ := Aside0.mk ((by rw [hg]; exact (below_size (by exact bw HB.out)) : w.heap.size ≤ gb444)); clear HB; have HB := n0_; have BK444 := n1_; have GW444 := n2_; have GE444 := n3_; clear n0_ n1_ n2_ n3_; clear hb hbox hg))
 go_loopg [3, 4] k (fun kq v3 v4 w' => ∃ (x3_1 : Int) (x4_1 : Int), v3 = .int .i64 x3_1 ∧ v4 = .int .i64 x4_1 ∧ Aside0 (spec_l4Size.l0 kq x3_1 x4_1 a0_0 a0_1 a0_2 l0_3 = some r) ∧ Aside0 (kq ≤ k) ∧ Aside0 (w'.heap[gb444]? = some (.cells #[.int .i64 a0_0, .int .i64 a0_1, .string a0_2, (.slice A0_3 l0_3.length c0_3)] 54 (0, 0))) ∧ Aside0 (Below w.heap.size w w'))
 case atStart => exact ⟨(1), (0), (by first | rfl | (simp; done) | (simp [*]; done)), (by first | rfl | (simp; done) | (simp [*]; done)), H', ⟨Nat.le_refl _⟩, ⟨by exact bk BK444.out⟩, ⟨by exact bw HB.out⟩⟩
 case round =>
  clear H'
  try clear p2
  obtain ⟨x3_1, x4_1, rfl, rfl, HA, HK1, BK444, HB⟩ := hrel
  cases gk with
  | zero => exact absurd HA.out (by simp [spec_l4Size.l0])
  | succ k1 =>
   have H := HA.out
   clear HA
   simp only [spec_l4Size.l0] at H
   by_cases c3 : x4_1 < (l0_3.length : Int)
   ·
    rw [if_pos c3] at H
    have c3b0 : decide (x4_1 < (l0_3.length : Int)) = true := decide_eq_true c3
    clear c3
    by_cases c4 : 0 ≤ x4_1
    ·
     rw [if_pos c4] at H
     have c4b0 : decide (0 ≤ x4_1) = true := decide_eq_true c4
     clear c4
     replace H := Option.bind_eq_some_iff.mp H
     obtain ⟨t446, A50, H⟩ := H
     replace H : (spec_l4Size.l0 k1 (wrap64 (x3_1 + t446)) (wrap64 (x4_1 + 1)) a0_0 a0_1 a0_2 l0_3) = some r := H
     have A5 := Aside0.mk A50
     clear A50
     have H' := Aside0.mk H
     clear H
     have hcz6_0 : wr.cell? ⟨gb444, 0, none⟩ = some (.int .i64 a0_0) := (blk_cell BK444.out 0).trans rfl
     have hcz6_1 : wr.cell? ⟨gb444, 1, none⟩ = some (.int .i64 a0_1) := (blk_cell BK444.out 1).trans rfl
     have hcz6_2 : wr.cell? ⟨gb444, 2, none⟩ = some (.string a0_2) := (blk_cell BK444.out 2).trans rfl
     have hcz6_3 : wr.cell? ⟨gb444, 3, none⟩ = some (.slice A0_3 l0_3.length c0_3) := (blk_cell BK444.out 3).trans rfl
     have hfz6_0 := blk_frozen BK444.out 0
     have hfz6_1 := blk_frozen BK444.out 1
     have hfz6_2 := blk_frozen BK444.out 2
     have hfz6_3 := blk_frozen BK444.out 3
     have p445 : 0 ≤ (x4_1 : Int) := of_decide_eq_true (by first | (with_reducible assumption) | assumption)
     have q445 : x4_1 < (l0_3.length : Int) := of_decide_eq_true (by first | (with_reducible assumption) | assumption)
     obtain ⟨ad445, A445_3, c445_3, e445, hx445_0, hx445_1, hx445_2, hx445_3, hl445_3, hi445_3⟩ := at_T54 HR0_3.out x4_1 p445 q445
     cases e445
     replace hx445_0 := (HB.out.cell (World.block_lt_of_cell? w _ hx445_0)).trans hx445_0
     replace hx445_1 := (HB.out.cell (World.block_lt_of_cell? w _ hx445_1)).trans hx445_1
     replace hx445_2 := (HB.out.cell (World.block_lt_of_cell? w _ hx445_2)).trans hx445_2
     replace hx445_3 := (HB.out.cell (World.block_lt_of_cell? w _ hx445_3)).trans hx445_3
     have HR445_3 := Aside0.mk hi445_3
     have HC445_3 := Aside0.mk hl445_3
     clear hi445_3 hl445_3
     replace p445 := eq_true p445
     replace q445 := eq_true q445
     go_wp2_with (first | ((with_reducible refine gate_callee (f := 56) rfl ?_); refine gl (some 18) Try.func56 #[.agg #[.int .i64 ((rd_T54 l0_3 x4_1).f0), .int .i64 ((rd_T54 l0_3 x4_1).f1), .string ((rd_T54 l0_3 x4_1).f2), .slice A445_3 ((rd_T54 l0_3 x4_1).f3).length c445_3]] ?_; (with_reducible refine (ih k1 (by have := HK1.out; omega) ((rd_T54 l0_3 x4_1).f0) ((rd_T54 l0_3 x4_1).f1) ((rd_T54 l0_3 x4_1).f2) _ _ ((rd_T54 l0_3 x4_1).f3) t446 _ ?side1 ?side2 A5.out).mono ?_); (case side1 => repeat (first | exact (Kd.C_below HR445_3.out HB.out) | (with_reducible refine Kd.C_alloc ?_ _) | (with_reducible refine Kd.C_drewN ?_ _) | (with_reducible refine Kd.C_drew ?_))); (case side2 => exact HC445_3.out); rintro e w7 ⟨rfl, hb⟩; refine ⟨_, rfl, ?_⟩; have n0_ := Aside0.mk (blk_below (g := gb444) (o := .cells #[.int .i64 a0_0, .int .i64 a0_1, .string a0_2, .slice (some ad445) l0_3.length c0_3] 54 (0, 0)) (by exact bk BK444.out) hb); have n1_ := Aside0.mk (below_step (by exact bw HB.out) hb); clear BK444; clear HB; have BK444 := n0_; have HB := n1_; clear n0_ n1_; (try clear hb); (try clear hb2); (try clear hk); (try clear hi)))
     go_roundg k1
     case measure => have := HK1.out; omega
     case rel => exact ⟨(wrap64 (x3_1 + t446)), (wrap64 (x4_1 + 1)), (by first | rfl | (simp; done) | (simp [*]; done)), (by first | rfl | (simp; done) | (simp [*]; done)), H', ⟨by have := HK1.out; omega⟩, ⟨by exact bk BK444.out⟩, ⟨by exact bw HB.out⟩⟩
    ·
     rw [if_neg c4] at H
     exact absurd H (by simp)
   ·
    rw [if_neg c3] at H
    have c3b0 : decide (x4_1 < (l0_3.length : Int)) = false := decide_eq_false c3
    clear c3
    obtain rfl := Option.some.inj H
    have hcz8_0 : wr.cell? ⟨gb444, 0, none⟩ = some (.int .i64 a0_0) := (blk_cell BK444.out 0).trans rfl
    have hcz8_1 : wr.cell? ⟨gb444, 1, none⟩ = some (.int .i64 a0_1) := (blk_cell BK444.out 1).trans rfl
    have hcz8_2 : wr.cell? ⟨gb444, 2, none⟩ = some (.string a0_2) := (blk_cell BK444.out 2).trans rfl
    have hcz8_3 : wr.cell? ⟨gb444, 3, none⟩ = some (.slice A0_3 l0_3.length c0_3) := (blk_cell BK444.out 3).trans rfl
    have hfz8_0 := blk_frozen BK444.out 0
    have hfz8_1 := blk_frozen BK444.out 1
    have hfz8_2 := blk_frozen BK444.out 2
    have hfz8_3 := blk_frozen BK444.out 3
    go_wp2
    go_ret
    exact ⟨by first | rfl | (simp [errW_none, errW_some] <;> rfl) | (simp [*, errW_none, errW_some] <;> rfl), by exact bw HB.out⟩

/-! ### spec_l4Deep: function 57 -/
mutual
def spec_l4Deep.l0 : Nat → Int → Int → Int → Int → ByteArray → List (S54) → Option (Int)
 | 0, _, _, _, _, _, _ => none
 | k + 1, x3, x4, x448000, x448001, x448002, x448003 => if x4 < (x448003.length : Int) then (if 0 ≤ x4 then ((spec_l4Deep.f k ((rd_T54 x448003 x4).f0) ((rd_T54 x448003 x4).f1) ((rd_T54 x448003 x4).f2) ((rd_T54 x448003 x4).f3)).bind fun t449 => (spec_l4Deep.l0 k (mx x3 t449) (wrap64 (x4 + 1)) x448000 x448001 x448002 x448003)) else (none)) else (some (wrap64 (x3 + 1)))
def spec_l4Deep.f : Nat → Int → Int → ByteArray → List (S54) → Option (Int)
 | 0, _, _, _, _ => none
 | k + 1, a0_0, a0_1, a0_2, l0_3 => spec_l4Deep.l0 k 0 0 a0_0 a0_1 a0_2 l0_3
end
theorem spec_l4Deep.mono_l : ∀ k, (∀ y0 y1 y2 y3, LeO (spec_l4Deep.f k y0 y1 y2 y3) (spec_l4Deep.f (k + 1) y0 y1 y2 y3)) ∧ (∀ y0 y1 y2 y3 y4 y5, LeO (spec_l4Deep.l0 k y0 y1 y2 y3 y4 y5) (spec_l4Deep.l0 (k + 1) y0 y1 y2 y3 y4 y5))
 | 0 => ⟨fun _ _ _ _ r h => by simp [spec_l4Deep.f] at h, fun _ _ _ _ _ _ r h => by simp [spec_l4Deep.l0] at h⟩
 | k + 1 => by
  obtain ⟨ih0, ih1⟩ := spec_l4Deep.mono_l k
  refine ⟨?_, ?_⟩
  ·
   intro y0 y1 y2 y3
   unfold spec_l4Deep.f
   repeat' first
   | (with_reducible exact ih0 _ _ _ _)
   | (with_reducible exact ih1 _ _ _ _ _ _)
   | (with_reducible exact LeO.refl _)
   | (with_reducible exact LeO.none _)
   | (with_reducible refine LeO.ite ?_ ?_)
   | (with_reducible refine LeO.bind ?_ (fun _ => ?_))
   | exact ih0 _ _ _ _
   | exact ih1 _ _ _ _ _ _
   | exact LeO.none _
   | refine LeO.ite ?_ ?_
   | refine LeO.bind ?_ (fun _ => ?_)
  ·
   intro y0 y1 y2 y3 y4 y5
   unfold spec_l4Deep.l0
   repeat' first
   | (with_reducible exact ih0 _ _ _ _)
   | (with_reducible exact ih1 _ _ _ _ _ _)
   | (with_reducible exact LeO.refl _)
   | (with_reducible exact LeO.none _)
   | (with_reducible refine LeO.ite ?_ ?_)
   | (with_reducible refine LeO.bind ?_ (fun _ => ?_))
   | exact ih0 _ _ _ _
   | exact ih1 _ _ _ _ _ _
   | exact LeO.none _
   | refine LeO.ite ?_ ?_
   | refine LeO.bind ?_ (fun _ => ?_)
theorem spec_l4Deep.mono : ∀ a0 a1 a2 a3 k, LeO (spec_l4Deep.f k a0 a1 a2 a3) (spec_l4Deep.f (k + 1) a0 a1 a2 a3) := by
 intro a0 a1 a2 a3 k
 obtain ⟨ih0, ih1⟩ := spec_l4Deep.mono_l k
 exact ih0 a0 a1 a2 a3
set_option maxHeartbeats 8000000 in
set_option maxRecDepth 100000 in
theorem spec_l4Deep.calls (k : Nat) : ∀ (a0_0 : Int) (a0_1 : Int) (a0_2 : ByteArray) (A0_3 : Option Addr) (c0_3 : Nat) (l0_3 : List (S54)) (r : Int) (w : World) (hr0_3 : Kd.C k54 w A0_3 l0_3.length l0_3) (hc0_3 : l0_3.length ≤ c0_3) (h : spec_l4Deep.f k a0_0 a0_1 a0_2 l0_3 = some r),
  Calls Try.prog 57 #[.agg #[.int .i64 a0_0, .int .i64 a0_1, .string a0_2, .slice A0_3 l0_3.length c0_3]] w fun e w' => e = .returned (.int .i64 r) ∧ Below w.heap.size w w' := by
 induction k using Nat.strongRecOn with
 | _ k ih =>
 intro a0_0 a0_1 a0_2 A0_3 c0_3 l0_3 r w hr0_3 hc0_3 h
 cases k with
 | zero => exact absurd h (by simp [spec_l4Deep.f])
 | succ k =>
 simp only [spec_l4Deep.f] at h
 have hu54 := Try.underlying54
 have HR0_3 := Aside0.mk hr0_3
 have HC0_3 := Aside0.mk hc0_3
 clear hr0_3 hc0_3
 have HB := Aside0.mk (Below.refl w.heap.size w)
 have H : (spec_l4Deep.l0 k 0 0 a0_0 a0_1 a0_2 l0_3) = some r := h
 clear h
 have H' := Aside0.mk H
 clear H
 go_enter Try.func57, Try.ntmps57
 go_wp2_with (first | ((with_reducible refine gate_dst (N := 1) rfl ?_); refine box_event ?hg (N := 1) ?hd (cs := #[.int .i64 a0_0, .int .i64 a0_1, .string a0_2, .slice A0_3 l0_3.length c0_3]) (t := 54) ?hr ?_; (case hd => rfl); (case hg => rfl); (case hr => first | (go_simp; done) | (go_simp; rfl)); intro gb447 hg w2 hbox hb; have n0_ := Aside0.mk (below_step (by exact bw HB.out) hb); have n1_ := Aside0.mk (hbox); have n2_ := Aside0.mk ((by rw [hg]; exact (below_size (by exact bw HB.out)) : w.heap.size ≤ gb447)); have n3_ := Aside0.mk ((by rw [hg]; exact (below_size (by exact bw HB.out)) : w.heap.size ≤ gb447)); clear HB; have HB := n0_; have BK447 := n1_; have GW447 := n2_; have GE447 := n3_; clear n0_ n1_ n2_ n3_; clear hb hbox hg))
 go_loopg [3, 4] k (fun kq v3 v4 w' => ∃ (x3_1 : Int) (x4_1 : Int), v3 = .int .i64 x3_1 ∧ v4 = .int .i64 x4_1 ∧ Aside0 (spec_l4Deep.l0 kq x3_1 x4_1 a0_0 a0_1 a0_2 l0_3 = some r) ∧ Aside0 (kq ≤ k) ∧ Aside0 (w'.heap[gb447]? = some (.cells #[.int .i64 a0_0, .int .i64 a0_1, .string a0_2, (.slice A0_3 l0_3.length c0_3)] 54 (0, 0))) ∧ Aside0 (Below w.heap.size w w'))
 case atStart => exact ⟨(0), (0), (by first | rfl | (simp; done) | (simp [*]; done)), (by first | rfl | (simp; done) | (simp [*]; done)), H', ⟨Nat.le_refl _⟩, ⟨by exact bk BK447.out⟩, ⟨by exact bw HB.out⟩⟩
 case round =>
  clear H'
  try clear p2
  obtain ⟨x3_1, x4_1, rfl, rfl, HA, HK1, BK447, HB⟩ := hrel
  cases gk with
  | zero => exact absurd HA.out (by simp [spec_l4Deep.l0])
  | succ k1 =>
   have H := HA.out
   clear HA
   simp only [spec_l4Deep.l0] at H
   by_cases c3 : x4_1 < (l0_3.length : Int)
   ·
    rw [if_pos c3] at H
    have c3b0 : decide (x4_1 < (l0_3.length : Int)) = true := decide_eq_true c3
    clear c3
    by_cases c4 : 0 ≤ x4_1
    ·
     rw [if_pos c4] at H
     have c4b0 : decide (0 ≤ x4_1) = true := decide_eq_true c4
     clear c4
     replace H := Option.bind_eq_some_iff.mp H
     obtain ⟨t449, A50, H⟩ := H
     replace H : (spec_l4Deep.l0 k1 (mx x3_1 t449) (wrap64 (x4_1 + 1)) a0_0 a0_1 a0_2 l0_3) = some r := H
     have A5 := Aside0.mk A50
     clear A50
     obtain ⟨ji6, hji6⟩ : ∃ j_ : Int, (mx x3_1 t449) = j_ := ⟨_, rfl⟩
     replace H : (spec_l4Deep.l0 k1 ji6 (wrap64 (x4_1 + 1)) a0_0 a0_1 a0_2 l0_3) = some r := by first | (rw [hji6] at H; exact H) | (simp only [hji6] at H ⊢; exact H)
     (try rw [hji6] at A5)
     have hji6_ : (if x3_1 < t449 then t449 else x3_1) = ji6 := hji6
     have H' := Aside0.mk H
     clear H
     have hcz7_0 : wr.cell? ⟨gb447, 0, none⟩ = some (.int .i64 a0_0) := (blk_cell BK447.out 0).trans rfl
     have hcz7_1 : wr.cell? ⟨gb447, 1, none⟩ = some (.int .i64 a0_1) := (blk_cell BK447.out 1).trans rfl
     have hcz7_2 : wr.cell? ⟨gb447, 2, none⟩ = some (.string a0_2) := (blk_cell BK447.out 2).trans rfl
     have hcz7_3 : wr.cell? ⟨gb447, 3, none⟩ = some (.slice A0_3 l0_3.length c0_3) := (blk_cell BK447.out 3).trans rfl
     have hfz7_0 := blk_frozen BK447.out 0
     have hfz7_1 := blk_frozen BK447.out 1
     have hfz7_2 := blk_frozen BK447.out 2
     have hfz7_3 := blk_frozen BK447.out 3
     have p448 : 0 ≤ (x4_1 : Int) := of_decide_eq_true (by first | (with_reducible assumption) | assumption)
     have q448 : x4_1 < (l0_3.length : Int) := of_decide_eq_true (by first | (with_reducible assumption) | assumption)
     obtain ⟨ad448, A448_3, c448_3, e448, hx448_0, hx448_1, hx448_2, hx448_3, hl448_3, hi448_3⟩ := at_T54 HR0_3.out x4_1 p448 q448
     cases e448
     replace hx448_0 := (HB.out.cell (World.block_lt_of_cell? w _ hx448_0)).trans hx448_0
     replace hx448_1 := (HB.out.cell (World.block_lt_of_cell? w _ hx448_1)).trans hx448_1
     replace hx448_2 := (HB.out.cell (World.block_lt_of_cell? w _ hx448_2)).trans hx448_2
     replace hx448_3 := (HB.out.cell (World.block_lt_of_cell? w _ hx448_3)).trans hx448_3
     have HR448_3 := Aside0.mk hi448_3
     have HC448_3 := Aside0.mk hl448_3
     clear hi448_3 hl448_3
     replace p448 := eq_true p448
     replace q448 := eq_true q448
     go_wp2_with (first | ((with_reducible refine gate_callee (f := 57) rfl ?_); refine gl (some 18) Try.func57 #[.agg #[.int .i64 ((rd_T54 l0_3 x4_1).f0), .int .i64 ((rd_T54 l0_3 x4_1).f1), .string ((rd_T54 l0_3 x4_1).f2), .slice A448_3 ((rd_T54 l0_3 x4_1).f3).length c448_3]] ?_; (with_reducible refine (ih k1 (by have := HK1.out; omega) ((rd_T54 l0_3 x4_1).f0) ((rd_T54 l0_3 x4_1).f1) ((rd_T54 l0_3 x4_1).f2) _ _ ((rd_T54 l0_3 x4_1).f3) t449 _ ?side1 ?side2 A5.out).mono ?_); (case side1 => repeat (first | exact (Kd.C_below HR448_3.out HB.out) | (with_reducible refine Kd.C_alloc ?_ _) | (with_reducible refine Kd.C_drewN ?_ _) | (with_reducible refine Kd.C_drew ?_))); (case side2 => exact HC448_3.out); rintro e w8 ⟨rfl, hb⟩; refine ⟨_, rfl, ?_⟩; have n0_ := Aside0.mk (blk_below (g := gb447) (o := .cells #[.int .i64 a0_0, .int .i64 a0_1, .string a0_2, .slice (some ad448) l0_3.length c0_3] 54 (0, 0)) (by exact bk BK447.out) hb); have n1_ := Aside0.mk (below_step (by exact bw HB.out) hb); clear BK447; clear HB; have BK447 := n0_; have HB := n1_; clear n0_ n1_; (try clear hb); (try clear hb2); (try clear hk); (try clear hi)))
     go_roundg k1
     case measure => have := HK1.out; omega
     case rel => exact ⟨(ji6), (wrap64 (x4_1 + 1)), (by first | rfl | (simp; done) | (simp only [← hji6] <;> (first | rfl | simp)) | (simp [*]; done)), (by first | rfl | (simp; done) | (simp [*]; done)), H', ⟨by have := HK1.out; omega⟩, ⟨by exact bk BK447.out⟩, ⟨by exact bw HB.out⟩⟩
    ·
     rw [if_neg c4] at H
     exact absurd H (by simp)
   ·
    rw [if_neg c3] at H
    have c3b0 : decide (x4_1 < (l0_3.length : Int)) = false := decide_eq_false c3
    clear c3
    obtain rfl := Option.some.inj H
    have hcz9_0 : wr.cell? ⟨gb447, 0, none⟩ = some (.int .i64 a0_0) := (blk_cell BK447.out 0).trans rfl
    have hcz9_1 : wr.cell? ⟨gb447, 1, none⟩ = some (.int .i64 a0_1) := (blk_cell BK447.out 1).trans rfl
    have hcz9_2 : wr.cell? ⟨gb447, 2, none⟩ = some (.string a0_2) := (blk_cell BK447.out 2).trans rfl
    have hcz9_3 : wr.cell? ⟨gb447, 3, none⟩ = some (.slice A0_3 l0_3.length c0_3) := (blk_cell BK447.out 3).trans rfl
    have hfz9_0 := blk_frozen BK447.out 0
    have hfz9_1 := blk_frozen BK447.out 1
    have hfz9_2 := blk_frozen BK447.out 2
    have hfz9_3 := blk_frozen BK447.out 3
    go_wp2
    go_ret
    exact ⟨by first | rfl | (simp [errW_none, errW_some] <;> rfl) | (simp [*, errW_none, errW_some] <;> rfl), by exact bw HB.out⟩

/-! ### spec_ExprValid: function 37 -/
def spec_ExprValid.f (k : Nat) (a0_0 : Int) (a0_1 : Int) (a0_2 : ByteArray) (l0_3 : List (S54)) : Option (Bool) := (spec_l4Good.f k a0_0 a0_1 a0_2 l0_3).bind fun t451 => (if t451 = true then ((spec_l4Size.f k a0_0 a0_1 a0_2 l0_3).bind fun t452 => (if t452 ≤ 40 then ((spec_l4Deep.f k a0_0 a0_1 a0_2 l0_3).bind fun t453 => (some (decide (t453 ≤ 7)))) else (some false))) else (some false))
theorem spec_ExprValid.mono : ∀ a0 a1 a2 a3 k, LeO (spec_ExprValid.f k a0 a1 a2 a3) (spec_ExprValid.f (k + 1) a0 a1 a2 a3) := by
 intro a0 a1 a2 a3 k
 unfold spec_ExprValid.f
 repeat' first
   | (with_reducible exact spec_l4Deep.mono _ _ _ _ _)
   | (with_reducible exact spec_l4Good.mono _ _ _ _ _)
   | (with_reducible exact spec_l4Size.mono _ _ _ _ _)
   | (with_reducible exact LeO.refl _)
   | (with_reducible exact LeO.none _)
   | (with_reducible refine LeO.ite ?_ ?_)
   | (with_reducible refine LeO.bind ?_ (fun _ => ?_))
   | exact spec_l4Deep.mono _ _ _ _ _
   | exact spec_l4Good.mono _ _ _ _ _
   | exact spec_l4Size.mono _ _ _ _ _
   | exact LeO.none _
   | refine LeO.ite ?_ ?_
   | refine LeO.bind ?_ (fun _ => ?_)
set_option maxHeartbeats 8000000 in
set_option maxRecDepth 100000 in
theorem spec_ExprValid.calls (k : Nat) (a0_0 : Int) (a0_1 : Int) (a0_2 : ByteArray) (A0_3 : Option Addr) (c0_3 : Nat) (l0_3 : List (S54)) (r : Bool) (w : World) (hr0_3 : Kd.C k54 w A0_3 l0_3.length l0_3) (hc0_3 : l0_3.length ≤ c0_3) (h : spec_ExprValid.f k a0_0 a0_1 a0_2 l0_3 = some r) :
  Calls Try.prog 37 #[.agg #[.int .i64 a0_0, .int .i64 a0_1, .string a0_2, .slice A0_3 l0_3.length c0_3]] w fun e w' => e = .returned (.bool r) ∧ Below w.heap.size w w' := by
 have hu54 := Try.underlying54
 have HR0_3 := Aside0.mk hr0_3
 have HC0_3 := Aside0.mk hc0_3
 clear hr0_3 hc0_3
 have HB := Aside0.mk (Below.refl w.heap.size w)
 have H : ((spec_l4Good.f k a0_0 a0_1 a0_2 l0_3).bind fun t451 => (if t451 = true then ((spec_l4Size.f k a0_0 a0_1 a0_2 l0_3).bind fun t452 => (if t452 ≤ 40 then ((spec_l4Deep.f k a0_0 a0_1 a0_2 l0_3).bind fun t453 => (some (decide (t453 ≤ 7)))) else (some false))) else (some false))) = some r := h
 clear h
 replace H := Option.bind_eq_some_iff.mp H
 obtain ⟨t451, A20, H⟩ := H
 replace H : (if t451 = true then ((spec_l4Size.f k a0_0 a0_1 a0_2 l0_3).bind fun t452 => (if t452 ≤ 40 then ((spec_l4Deep.f k a0_0 a0_1 a0_2 l0_3).bind fun t453 => (some (decide (t453 ≤ 7)))) else (some false))) else (some false)) = some r := H
 have A2 := Aside0.mk A20
 clear A20
 by_cases c3 : t451 = true
 ·
  subst c3
  have H1 : ((spec_l4Size.f k a0_0 a0_1 a0_2 l0_3).bind fun t452 => (if t452 ≤ 40 then ((spec_l4Deep.f k a0_0 a0_1 a0_2 l0_3).bind fun t453 => (some (decide (t453 ≤ 7)))) else (some false))) = some r := by rw [if_pos rfl] at H; exact H
  clear H
  have H := H1
  clear H1
  replace H := Option.bind_eq_some_iff.mp H
  obtain ⟨t452, A40, H⟩ := H
  replace H : (if t452 ≤ 40 then ((spec_l4Deep.f k a0_0 a0_1 a0_2 l0_3).bind fun t453 => (some (decide (t453 ≤ 7)))) else (some false)) = some r := H
  have A4 := Aside0.mk A40
  clear A40
  by_cases c5 : t452 ≤ 40
  ·
   rw [if_pos c5] at H
   have c5b0 : decide (t452 ≤ 40) = true := decide_eq_true c5
   clear c5
   replace H := Option.bind_eq_some_iff.mp H
   obtain ⟨t453, A60, H⟩ := H
   replace H : (some (decide (t453 ≤ 7))) = some r := H
   have A6 := Aside0.mk A60
   clear A60
   obtain rfl := Option.some.inj H
   go_enter Try.func37, Try.ntmps37
   go_wp2_with (first | ((with_reducible refine gate_dst (N := 1) rfl ?_); refine box_event ?hg (N := 1) ?hd (cs := #[.int .i64 a0_0, .int .i64 a0_1, .string a0_2, .slice A0_3 l0_3.length c0_3]) (t := 54) ?hr ?_; (case hd => rfl); (case hg => rfl); (case hr => first | (go_simp; done) | (go_simp; rfl)); intro gb450 hg w7 hbox hb; have n0_ := Aside0.mk (below_step (by exact bw HB.out) hb); have n1_ := Aside0.mk (hbox); have n2_ := Aside0.mk ((by rw [hg]; exact (below_size (by exact bw HB.out)) : w.heap.size ≤ gb450)); have n3_ := Aside0.mk ((by rw [hg]; exact (below_size (by exact bw HB.out)) : w.heap.size ≤ gb450)); clear HB; have HB := n0_; have BK450 := n1_; have GW450 := n2_; have GE450 := n3_; clear n0_ n1_ n2_ n3_; clear hb hbox hg; have hcz8_0 : w7.cell? ⟨gb450, 0, none⟩ = some (.int .i64 a0_0) := (blk_cell BK450.out 0).trans rfl; have hcz8_1 : w7.cell? ⟨gb450, 1, none⟩ = some (.int .i64 a0_1) := (blk_cell BK450.out 1).trans rfl; have hcz8_2 : w7.cell? ⟨gb450, 2, none⟩ = some (.string a0_2) := (blk_cell BK450.out 2).trans rfl; have hcz8_3 : w7.cell? ⟨gb450, 3, none⟩ = some (.slice A0_3 l0_3.length c0_3) := (blk_cell BK450.out 3).trans rfl; have hfz8_0 := blk_frozen BK450.out 0; have hfz8_1 := blk_frozen BK450.out 1; have hfz8_2 := blk_frozen BK450.out 2; have hfz8_3 := blk_frozen BK450.out 3) | ((with_reducible refine gate_callee (f := 55) rfl ?_); refine gl (some 4) Try.func55 #[.agg #[.int .i64 a0_0, .int .i64 a0_1, .string a0_2, .slice A0_3 l0_3.length c0_3]] ?_; (with_reducible refine (spec_l4Good.calls k a0_0 a0_1 a0_2 _ _ l0_3 true _ ?side1 ?side2 A2.out).mono ?_); (case side1 => repeat (first | exact (Kd.C_below HR0_3.out HB.out) | (with_reducible refine Kd.C_alloc ?_ _) | (with_reducible refine Kd.C_drewN ?_ _) | (with_reducible refine Kd.C_drew ?_))); (case side2 => exact HC0_3.out); rintro e w9 ⟨rfl, hb⟩; refine ⟨_, rfl, ?_⟩; have n0_ := Aside0.mk (blk_below (g := gb450) (o := .cells #[.int .i64 a0_0, .int .i64 a0_1, .string a0_2, .slice A0_3 l0_3.length c0_3] 54 (0, 0)) (by exact bk BK450.out) hb); have n1_ := Aside0.mk (below_step (by exact bw HB.out) hb); clear BK450; clear HB; have BK450 := n0_; have HB := n1_; clear n0_ n1_; (try clear hb); (try clear hb2); (try clear hk); (try clear hi); have hcz10_0 : w9.cell? ⟨gb450, 0, none⟩ = some (.int .i64 a0_0) := (blk_cell BK450.out 0).trans rfl; have hcz10_1 : w9.cell? ⟨gb450, 1, none⟩ = some (.int .i64 a0_1) := (blk_cell BK450.out 1).trans rfl; have hcz10_2 : w9.cell? ⟨gb450, 2, none⟩ = some (.string a0_2) := (blk_cell BK450.out 2).trans rfl; have hcz10_3 : w9.cell? ⟨gb450, 3, none⟩ = some (.slice A0_3 l0_3.length c0_3) := (blk_cell BK450.out 3).trans rfl; have hfz10_0 := blk_frozen BK450.out 0; have hfz10_1 := blk_frozen BK450.out 1; have hfz10_2 := blk_frozen BK450.out 2; have hfz10_3 := blk_frozen BK450.out 3) | (go_at_call 56; (with_reducible refine (spec_l4Size.calls k a0_0 a0_1 a0_2 _ _ l0_3 t452 _ ?side1 ?side2 A4.out).mono ?_); (case side1 => repeat (first | exact (Kd.C_below HR0_3.out HB.out) | (with_reducible refine Kd.C_alloc ?_ _) | (with_reducible refine Kd.C_drewN ?_ _) | (with_reducible refine Kd.C_drew ?_))); (case side2 => exact HC0_3.out); rintro e w11 ⟨rfl, hb⟩; have n0_ := Aside0.mk (blk_below (g := gb450) (o := .cells #[.int .i64 a0_0, .int .i64 a0_1, .string a0_2, .slice A0_3 l0_3.length c0_3] 54 (0, 0)) (by exact bk BK450.out) hb); have n1_ := Aside0.mk (below_step (by exact bw HB.out) hb); clear BK450; clear HB; have BK450 := n0_; have HB := n1_; clear n0_ n1_; (try clear hb); (try clear hb2); (try clear hk); (try clear hi); have hcz12_0 : w11.cell? ⟨gb450, 0, none⟩ = some (.int .i64 a0_0) := (blk_cell BK450.out 0).trans rfl; have hcz12_1 : w11.cell? ⟨gb450, 1, none⟩ = some (.int .i64 a0_1) := (blk_cell BK450.out 1).trans rfl; have hcz12_2 : w11.cell? ⟨gb450, 2, none⟩ = some (.string a0_2) := (blk_cell BK450.out 2).trans rfl; have hcz12_3 : w11.cell? ⟨gb450, 3, none⟩ = some (.slice A0_3 l0_3.length c0_3) := (blk_cell BK450.out 3).trans rfl; have hfz12_0 := blk_frozen BK450.out 0; have hfz12_1 := blk_frozen BK450.out 1; have hfz12_2 := blk_frozen BK450.out 2; have hfz12_3 := blk_frozen BK450.out 3) | (go_at_call 57; (with_reducible refine (spec_l4Deep.calls k a0_0 a0_1 a0_2 _ _ l0_3 t453 _ ?side1 ?side2 A6.out).mono ?_); (case side1 => repeat (first | exact (Kd.C_below HR0_3.out HB.out) | (with_reducible refine Kd.C_alloc ?_ _) | (with_reducible refine Kd.C_drewN ?_ _) | (with_reducible refine Kd.C_drew ?_))); (case side2 => exact HC0_3.out); rintro e w13 ⟨rfl, hb⟩; have n0_ := Aside0.mk (blk_below (g := gb450) (o := .cells #[.int .i64 a0_0, .int .i64 a0_1, .string a0_2, .slice A0_3 l0_3.length c0_3] 54 (0, 0)) (by exact bk BK450.out) hb); have n1_ := Aside0.mk (below_step (by exact bw HB.out) hb); clear BK450; clear HB; have BK450 := n0_; have HB := n1_; clear n0_ n1_; (try clear hb); (try clear hb2); (try clear hk); (try clear hi)))
   go_ret
   exact ⟨by first | rfl | (simp [errW_none, errW_some] <;> rfl) | (simp [*, errW_none, errW_some] <;> rfl), by exact bw HB.out⟩
  ·
   rw [if_neg c5] at H
   have c5b0 : decide (t452 ≤ 40) = false := decide_eq_false c5
   clear c5
   obtain rfl := Option.some.inj H
   go_enter Try.func37, Try.ntmps37
   go_wp2_with (first | ((with_reducible refine gate_dst (N := 1) rfl ?_); refine box_event ?hg (N := 1) ?hd (cs := #[.int .i64 a0_0, .int .i64 a0_1, .string a0_2, .slice A0_3 l0_3.length c0_3]) (t := 54) ?hr ?_; (case hd => rfl); (case hg => rfl); (case hr => first | (go_simp; done) | (go_simp; rfl)); intro gb450 hg w14 hbox hb; have n0_ := Aside0.mk (below_step (by exact bw HB.out) hb); have n1_ := Aside0.mk (hbox); have n2_ := Aside0.mk ((by rw [hg]; exact (below_size (by exact bw HB.out)) : w.heap.size ≤ gb450)); have n3_ := Aside0.mk ((by rw [hg]; exact (below_size (by exact bw HB.out)) : w.heap.size ≤ gb450)); clear HB; have HB := n0_; have BK450 := n1_; have GW450 := n2_; have GE450 := n3_; clear n0_ n1_ n2_ n3_; clear hb hbox hg; have hcz15_0 : w14.cell? ⟨gb450, 0, none⟩ = some (.int .i64 a0_0) := (blk_cell BK450.out 0).trans rfl; have hcz15_1 : w14.cell? ⟨gb450, 1, none⟩ = some (.int .i64 a0_1) := (blk_cell BK450.out 1).trans rfl; have hcz15_2 : w14.cell? ⟨gb450, 2, none⟩ = some (.string a0_2) := (blk_cell BK450.out 2).trans rfl; have hcz15_3 : w14.cell? ⟨gb450, 3, none⟩ = some (.slice A0_3 l0_3.length c0_3) := (blk_cell BK450.out 3).trans rfl; have hfz15_0 := blk_frozen BK450.out 0; have hfz15_1 := blk_frozen BK450.out 1; have hfz15_2 := blk_frozen BK450.out 2; have hfz15_3 := blk_frozen BK450.out 3) | ((with_reducible refine gate_callee (f := 55) rfl ?_); refine gl (some 4) Try.func55 #[.agg #[.int .i64 a0_0, .int .i64 a0_1, .string a0_2, .slice A0_3 l0_3.length c0_3]] ?_; (with_reducible refine (spec_l4Good.calls k a0_0 a0_1 a0_2 _ _ l0_3 true _ ?side1 ?side2 A2.out).mono ?_); (case side1 => repeat (first | exact (Kd.C_below HR0_3.out HB.out) | (with_reducible refine Kd.C_alloc ?_ _) | (with_reducible refine Kd.C_drewN ?_ _) | (with_reducible refine Kd.C_drew ?_))); (case side2 => exact HC0_3.out); rintro e w16 ⟨rfl, hb⟩; refine ⟨_, rfl, ?_⟩; have n0_ := Aside0.mk (blk_below (g := gb450) (o := .cells #[.int .i64 a0_0, .int .i64 a0_1, .string a0_2, .slice A0_3 l0_3.length c0_3] 54 (0, 0)) (by exact bk BK450.out) hb); have n1_ := Aside0.mk (below_step (by exact bw HB.out) hb); clear BK450; clear HB; have BK450 := n0_; have HB := n1_; clear n0_ n1_; (try clear hb); (try clear hb2); (try clear hk); (try clear hi); have hcz17_0 : w16.cell? ⟨gb450, 0, none⟩ = some (.int .i64 a0_0) := (blk_cell BK450.out 0).trans rfl; have hcz17_1 : w16.cell? ⟨gb450, 1, none⟩ = some (.int .i64 a0_1) := (blk_cell BK450.out 1).trans rfl; have hcz17_2 : w16.cell? ⟨gb450, 2, none⟩ = some (.string a0_2) := (blk_cell BK450.out 2).trans rfl; have hcz17_3 : w16.cell? ⟨gb450, 3, none⟩ = some (.slice A0_3 l0_3.length c0_3) := (blk_cell BK450.out 3).trans rfl; have hfz17_0 := blk_frozen BK450.out 0; have hfz17_1 := blk_frozen BK450.out 1; have hfz17_2 := blk_frozen BK450.out 2; have hfz17_3 := blk_frozen BK450.out 3) | (go_at_call 56; (with_reducible refine (spec_l4Size.calls k a0_0 a0_1 a0_2 _ _ l0_3 t452 _ ?side1 ?side2 A4.out).mono ?_); (case side1 => repeat (first | exact (Kd.C_below HR0_3.out HB.out) | (with_reducible refine Kd.C_alloc ?_ _) | (with_reducible refine Kd.C_drewN ?_ _) | (with_reducible refine Kd.C_drew ?_))); (case side2 => exact HC0_3.out); rintro e w18 ⟨rfl, hb⟩; have n0_ := Aside0.mk (blk_below (g := gb450) (o := .cells #[.int .i64 a0_0, .int .i64 a0_1, .string a0_2, .slice A0_3 l0_3.length c0_3] 54 (0, 0)) (by exact bk BK450.out) hb); have n1_ := Aside0.mk (below_step (by exact bw HB.out) hb); clear BK450; clear HB; have BK450 := n0_; have HB := n1_; clear n0_ n1_; (try clear hb); (try clear hb2); (try clear hk); (try clear hi)))
   go_ret
   exact ⟨by first | rfl | (simp [errW_none, errW_some] <;> rfl) | (simp [*, errW_none, errW_some] <;> rfl), by exact bw HB.out⟩
 ·
  replace c3 := Bool.eq_false_iff.mpr c3
  subst c3
  have H1 : (some false) = some r := by rw [if_neg (show ¬ (false = true) by decide)] at H; exact H
  clear H
  have H := H1
  clear H1
  obtain rfl := Option.some.inj H
  go_enter Try.func37, Try.ntmps37
  go_wp2_with (first | ((with_reducible refine gate_dst (N := 1) rfl ?_); refine box_event ?hg (N := 1) ?hd (cs := #[.int .i64 a0_0, .int .i64 a0_1, .string a0_2, .slice A0_3 l0_3.length c0_3]) (t := 54) ?hr ?_; (case hd => rfl); (case hg => rfl); (case hr => first | (go_simp; done) | (go_simp; rfl)); intro gb450 hg w19 hbox hb; have n0_ := Aside0.mk (below_step (by exact bw HB.out) hb); have n1_ := Aside0.mk (hbox); have n2_ := Aside0.mk ((by rw [hg]; exact (below_size (by exact bw HB.out)) : w.heap.size ≤ gb450)); have n3_ := Aside0.mk ((by rw [hg]; exact (below_size (by exact bw HB.out)) : w.heap.size ≤ gb450)); clear HB; have HB := n0_; have BK450 := n1_; have GW450 := n2_; have GE450 := n3_; clear n0_ n1_ n2_ n3_; clear hb hbox hg; have hcz20_0 : w19.cell? ⟨gb450, 0, none⟩ = some (.int .i64 a0_0) := (blk_cell BK450.out 0).trans rfl; have hcz20_1 : w19.cell? ⟨gb450, 1, none⟩ = some (.int .i64 a0_1) := (blk_cell BK450.out 1).trans rfl; have hcz20_2 : w19.cell? ⟨gb450, 2, none⟩ = some (.string a0_2) := (blk_cell BK450.out 2).trans rfl; have hcz20_3 : w19.cell? ⟨gb450, 3, none⟩ = some (.slice A0_3 l0_3.length c0_3) := (blk_cell BK450.out 3).trans rfl; have hfz20_0 := blk_frozen BK450.out 0; have hfz20_1 := blk_frozen BK450.out 1; have hfz20_2 := blk_frozen BK450.out 2; have hfz20_3 := blk_frozen BK450.out 3) | ((with_reducible refine gate_callee (f := 55) rfl ?_); refine gl (some 4) Try.func55 #[.agg #[.int .i64 a0_0, .int .i64 a0_1, .string a0_2, .slice A0_3 l0_3.length c0_3]] ?_; (with_reducible refine (spec_l4Good.calls k a0_0 a0_1 a0_2 _ _ l0_3 false _ ?side1 ?side2 A2.out).mono ?_); (case side1 => repeat (first | exact (Kd.C_below HR0_3.out HB.out) | (with_reducible refine Kd.C_alloc ?_ _) | (with_reducible refine Kd.C_drewN ?_ _) | (with_reducible refine Kd.C_drew ?_))); (case side2 => exact HC0_3.out); rintro e w21 ⟨rfl, hb⟩; refine ⟨_, rfl, ?_⟩; have n0_ := Aside0.mk (blk_below (g := gb450) (o := .cells #[.int .i64 a0_0, .int .i64 a0_1, .string a0_2, .slice A0_3 l0_3.length c0_3] 54 (0, 0)) (by exact bk BK450.out) hb); have n1_ := Aside0.mk (below_step (by exact bw HB.out) hb); clear BK450; clear HB; have BK450 := n0_; have HB := n1_; clear n0_ n1_; (try clear hb); (try clear hb2); (try clear hk); (try clear hi)))
  go_ret
  exact ⟨by first | rfl | (simp [errW_none, errW_some] <;> rfl) | (simp [*, errW_none, errW_some] <;> rfl), by exact bw HB.out⟩

/-! ### impl_partsOf: function 64 -/
def impl_partsOf.j0 : Nat → Int → Bool → Option (Int × Bool)
 | 0, _, _ => none
 | k + 1, x4, x7 => if x7 = true then (some (1, true)) else (if x4 = 13 then (some (1, false)) else (if x4 = 10 then (some (2, false)) else (if x4 = 11 then (some (2, false)) else (if x4 = 12 then (some (2, false)) else (if x4 = 14 then (some (2, false)) else (if x4 = 15 then (some (2, false)) else (some (0, false))))))))
def impl_partsOf.f (k : Nat) (a0 : Int) : Option (Int × Bool) := if a0 = 7 then (some (0, true)) else (if a0 = 8 then (impl_partsOf.j0 k a0 (a0 == 8)) else (impl_partsOf.j0 k a0 (a0 == 9)))
theorem impl_partsOf.mono_l : ∀ k, (∀ y0 y1, LeO (impl_partsOf.j0 k y0 y1) (impl_partsOf.j0 (k + 1) y0 y1))
 | 0 => fun _ _ r h => by simp [impl_partsOf.j0] at h
 | k + 1 => by
  have ih0 := impl_partsOf.mono_l k
  ·
   intro y0 y1
   unfold impl_partsOf.j0
   repeat' first
   | (with_reducible exact ih0 _ _)
   | (with_reducible exact LeO.refl _)
   | (with_reducible exact LeO.none _)
   | (with_reducible refine LeO.ite ?_ ?_)
   | (with_reducible refine LeO.bind ?_ (fun _ => ?_))
   | exact ih0 _ _
   | exact LeO.none _
   | refine LeO.ite ?_ ?_
   | refine LeO.bind ?_ (fun _ => ?_)
theorem impl_partsOf.mono : ∀ a0 k, LeO (impl_partsOf.f k a0) (impl_partsOf.f (k + 1) a0) := by
 intro a0 k
 have ih0 := impl_partsOf.mono_l k
 unfold impl_partsOf.f
 repeat' first
   | (with_reducible exact ih0 _ _)
   | (with_reducible exact LeO.refl _)
   | (with_reducible exact LeO.none _)
   | (with_reducible refine LeO.ite ?_ ?_)
   | (with_reducible refine LeO.bind ?_ (fun _ => ?_))
   | exact ih0 _ _
   | exact LeO.none _
   | refine LeO.ite ?_ ?_
   | refine LeO.bind ?_ (fun _ => ?_)
set_option maxHeartbeats 8000000 in
set_option maxRecDepth 100000 in
theorem impl_partsOf.calls (k : Nat) (a0 : Int) (r1 : Int) (r2 : Bool) (w : World) (h : impl_partsOf.f k a0 = some (r1, r2)) :
  Calls Try.prog 64 #[.int .i64 a0] w fun e w' => e = .returned (.tuple #[.int .i64 r1, .bool r2]) ∧ Drawn0 w w' := by
 have H : (if a0 = 7 then (some (0, true)) else (if a0 = 8 then (impl_partsOf.j0 k a0 (a0 == 8)) else (impl_partsOf.j0 k a0 (a0 == 9)))) = some (r1, r2) := h
 clear h
 by_cases c2 : a0 = 7
 ·
  rw [if_pos c2] at H
  have c2b0 : (a0 == 7) = true := beq_iff_eq.mpr c2
  have c2b1 : (a0 != 7) = false := bne_eq_false_iff_eq.mpr c2
  clear c2
  simp only [Option.some.injEq, Prod.mk.injEq] at H
  obtain ⟨rfl, rfl⟩ := H
  go_enter Try.func64, Try.ntmps64
  go_wp2
  go_ret2
  exact ⟨by first | rfl | (simp; done) | (simp [*]; done), by repeat (first | exact Drawn0.refl _ | apply Drawn0.step)⟩
 ·
  rw [if_neg c2] at H
  have c2b0 : (a0 == 7) = false := beq_eq_false_iff_ne.mpr c2
  have c2b1 : (a0 != 7) = true := bne_iff_ne.mpr c2
  have HC3 := Aside0.mk H
  clear H
  go_enter Try.func64, Try.ntmps64
  go_upto_if 7 with (fail)
  go_cut [7] (fun v7 wc => ∃ (kq : Nat) (x7_2 : Bool), v7 = .bool x7_2 ∧ Aside0 (impl_partsOf.j0 kq a0 x7_2 = some (r1, r2)) ∧ Aside0 (kq ≤ k) ∧ Drawn0 w wc)
  case first =>
   have H := HC3.out
   clear HC3
   by_cases c4 : a0 = 8
   ·
    rw [if_pos c4] at H
    have c4b0 : (a0 == 8) = true := beq_iff_eq.mpr c4
    have c4b1 : (a0 != 8) = false := bne_eq_false_iff_eq.mpr c4
    clear c4
    (first | rw [c4b0] | (simp only [i64_w, i32_w]; rw [c4b0]) | rw [c4b2] | rw [c4b1] | skip)
    have H' := Aside0.mk H
    clear H
    go_wp2
    go_meet
    case rel => exact ⟨_, ((a0 == 8)), (by first | rfl | (simp; done) | (simp [*]; done)), H', ⟨by first | omega | exact Nat.le_refl _⟩, by repeat (first | exact Drawn0.refl _ | apply Drawn0.step)⟩
   ·
    rw [if_neg c4] at H
    have c4b0 : (a0 == 8) = false := beq_eq_false_iff_ne.mpr c4
    have c4b1 : (a0 != 8) = true := bne_iff_ne.mpr c4
    (first | rw [c4b0] | (simp only [i64_w, i32_w]; rw [c4b0]) | rw [c4b2] | rw [c4b1] | skip)
    have H' := Aside0.mk H
    clear H
    go_wp2
    go_meet
    case rel => exact ⟨_, ((a0 == 9)), (by first | rfl | (simp; done) | (simp [*]; done)), H', ⟨by first | omega | exact Nat.le_refl _⟩, by repeat (first | exact Drawn0.refl _ | apply Drawn0.step)⟩
  case rest =>
   clear HC3
   try clear c2
   try clear c2b0
   try clear c2b1
   try clear p2
   try clear c4
   try clear c4b0
   try clear c4b1
   try clear c4b2
   obtain ⟨kq, x7_2, rfl, HA, HJ2, ⟨mc2, rfl⟩⟩ := hcut
   cases kq with
   | zero => exact absurd HA.out (by simp [impl_partsOf.j0])
   | succ kj2 =>
    have H := HA.out
    clear HA
    simp only [impl_partsOf.j0] at H
    by_cases c5 : x7_2 = true
    ·
     subst c5
     have H1 : (some (1, true)) = some (r1, r2) := by rw [if_pos rfl] at H; exact H
     clear H
     have H := H1
     clear H1
     simp only [Option.some.injEq, Prod.mk.injEq] at H
     obtain ⟨rfl, rfl⟩ := H
     go_wp2
     go_ret2
     exact ⟨by first | rfl | (simp; done) | (simp [*]; done), by repeat (first | exact Drawn0.refl _ | apply Drawn0.step)⟩
    ·
     replace c5 := Bool.eq_false_iff.mpr c5
     subst c5
     have H1 : (if a0 = 13 then (some (1, false)) else (if a0 = 10 then (some (2, false)) else (if a0 = 11 then (some (2, false)) else (if a0 = 12 then (some (2, false)) else (if a0 = 14 then (some (2, false)) else (if a0 = 15 then (some (2, false)) else (some (0, false)))))))) = some (r1, r2) := by rw [if_neg (show ¬ (false = true) by decide)] at H; exact H
     clear H
     have H := H1
     clear H1
     by_cases c6 : a0 = 13
     ·
      rw [if_pos c6] at H
      have c6b0 : (a0 == 13) = true := beq_iff_eq.mpr c6
      have c6b1 : (a0 != 13) = false := bne_eq_false_iff_eq.mpr c6
      clear c6
      simp only [Option.some.injEq, Prod.mk.injEq] at H
      obtain ⟨rfl, rfl⟩ := H
      go_wp2
      go_ret2
      exact ⟨by first | rfl | (simp; done) | (simp [*]; done), by repeat (first | exact Drawn0.refl _ | apply Drawn0.step)⟩
     ·
      rw [if_neg c6] at H
      have c6b0 : (a0 == 13) = false := beq_eq_false_iff_ne.mpr c6
      have c6b1 : (a0 != 13) = true := bne_iff_ne.mpr c6
      by_cases c7 : a0 = 10
      ·
       rw [if_pos c7] at H
       have c7b0 : (a0 == 10) = true := beq_iff_eq.mpr c7
       have c7b1 : (a0 != 10) = false := bne_eq_false_iff_eq.mpr c7
       clear c7
       simp only [Option.some.injEq, Prod.mk.injEq] at H
       obtain ⟨rfl, rfl⟩ := H
       go_wp2
       go_ret2
       exact ⟨by first | rfl | (simp; done) | (simp [*]; done), by repeat (first | exact Drawn0.refl _ | apply Drawn0.step)⟩
      ·
       rw [if_neg c7] at H
       have c7b0 : (a0 == 10) = false := beq_eq_false_iff_ne.mpr c7
       have c7b1 : (a0 != 10) = true := bne_iff_ne.mpr c7
       by_cases c8 : a0 = 11
       ·
        rw [if_pos c8] at H
        have c8b0 : (a0 == 11) = true := beq_iff_eq.mpr c8
        have c8b1 : (a0 != 11) = false := bne_eq_false_iff_eq.mpr c8
        clear c8
        simp only [Option.some.injEq, Prod.mk.injEq] at H
        obtain ⟨rfl, rfl⟩ := H
        go_wp2
        go_ret2
        exact ⟨by first | rfl | (simp; done) | (simp [*]; done), by repeat (first | exact Drawn0.refl _ | apply Drawn0.step)⟩
       ·
        rw [if_neg c8] at H
        have c8b0 : (a0 == 11) = false := beq_eq_false_iff_ne.mpr c8
        have c8b1 : (a0 != 11) = true := bne_iff_ne.mpr c8
        by_cases c9 : a0 = 12
        ·
         rw [if_pos c9] at H
         have c9b0 : (a0 == 12) = true := beq_iff_eq.mpr c9
         have c9b1 : (a0 != 12) = false := bne_eq_false_iff_eq.mpr c9
         clear c9
         simp only [Option.some.injEq, Prod.mk.injEq] at H
         obtain ⟨rfl, rfl⟩ := H
         go_wp2
         go_ret2
         exact ⟨by first | rfl | (simp; done) | (simp [*]; done), by repeat (first | exact Drawn0.refl _ | apply Drawn0.step)⟩
        ·
         rw [if_neg c9] at H
         have c9b0 : (a0 == 12) = false := beq_eq_false_iff_ne.mpr c9
         have c9b1 : (a0 != 12) = true := bne_iff_ne.mpr c9
         by_cases c10 : a0 = 14
         ·
          rw [if_pos c10] at H
          have c10b0 : (a0 == 14) = true := beq_iff_eq.mpr c10
          have c10b1 : (a0 != 14) = false := bne_eq_false_iff_eq.mpr c10
          clear c10
          simp only [Option.some.injEq, Prod.mk.injEq] at H
          obtain ⟨rfl, rfl⟩ := H
          go_wp2
          go_ret2
          exact ⟨by first | rfl | (simp; done) | (simp [*]; done), by repeat (first | exact Drawn0.refl _ | apply Drawn0.step)⟩
         ·
          rw [if_neg c10] at H
          have c10b0 : (a0 == 14) = false := beq_eq_false_iff_ne.mpr c10
          have c10b1 : (a0 != 14) = true := bne_iff_ne.mpr c10
          by_cases c11 : a0 = 15
          ·
           rw [if_pos c11] at H
           have c11b0 : (a0 == 15) = true := beq_iff_eq.mpr c11
           have c11b1 : (a0 != 15) = false := bne_eq_false_iff_eq.mpr c11
           clear c11
           simp only [Option.some.injEq, Prod.mk.injEq] at H
           obtain ⟨rfl, rfl⟩ := H
           go_wp2
           go_ret2
           exact ⟨by first | rfl | (simp; done) | (simp [*]; done), by repeat (first | exact Drawn0.refl _ | apply Drawn0.step)⟩
          ·
           rw [if_neg c11] at H
           have c11b0 : (a0 == 15) = false := beq_eq_false_iff_ne.mpr c11
           have c11b1 : (a0 != 15) = true := bne_iff_ne.mpr c11
           simp only [Option.some.injEq, Prod.mk.injEq] at H
           obtain ⟨rfl, rfl⟩ := H
           go_wp2
           go_ret2
           exact ⟨by first | rfl | (simp; done) | (simp [*]; done), by repeat (first | exact Drawn0.refl _ | apply Drawn0.step)⟩

/-! ### impl_greatestNumber: function 65 -/
def impl_greatestNumber.f (a0 : Int) : Option (Int) := if a0 = 1 then (some 1) else (if a0 = 2 then (some 99) else (if a0 = 3 then (some 6) else (some 0)))
set_option maxHeartbeats 8000000 in
set_option maxRecDepth 100000 in
theorem impl_greatestNumber.calls (a0 : Int) (r : Int) (w : World) (h : impl_greatestNumber.f a0 = some r) :
  Calls Try.prog 65 #[.int .i64 a0] w fun e w' => e = .returned (.int .i64 r) ∧ Drawn0 w w' := by
 have H : (if a0 = 1 then (some 1) else (if a0 = 2 then (some 99) else (if a0 = 3 then (some 6) else (some 0)))) = some r := h
 clear h
 by_cases c2 : a0 = 1
 ·
  rw [if_pos c2] at H
  have c2b0 : (a0 == 1) = true := beq_iff_eq.mpr c2
  have c2b1 : (a0 != 1) = false := bne_eq_false_iff_eq.mpr c2
  clear c2
  obtain rfl := Option.some.inj H
  go_enter Try.func65, Try.ntmps65
  go_wp2
  go_ret
  exact ⟨by first | rfl | (simp; done) | (simp [*]; done), by repeat (first | exact Drawn0.refl _ | apply Drawn0.step)⟩
 ·
  rw [if_neg c2] at H
  have c2b0 : (a0 == 1) = false := beq_eq_false_iff_ne.mpr c2
  have c2b1 : (a0 != 1) = true := bne_iff_ne.mpr c2
  by_cases c3 : a0 = 2
  ·
   rw [if_pos c3] at H
   have c3b0 : (a0 == 2) = true := beq_iff_eq.mpr c3
   have c3b1 : (a0 != 2) = false := bne_eq_false_iff_eq.mpr c3
   clear c3
   obtain rfl := Option.some.inj H
   go_enter Try.func65, Try.ntmps65
   go_wp2
   go_ret
   exact ⟨by first | rfl | (simp; done) | (simp [*]; done), by repeat (first | exact Drawn0.refl _ | apply Drawn0.step)⟩
  ·
   rw [if_neg c3] at H
   have c3b0 : (a0 == 2) = false := beq_eq_false_iff_ne.mpr c3
   have c3b1 : (a0 != 2) = true := bne_iff_ne.mpr c3
   by_cases c4 : a0 = 3
   ·
    rw [if_pos c4] at H
    have c4b0 : (a0 == 3) = true := beq_iff_eq.mpr c4
    have c4b1 : (a0 != 3) = false := bne_eq_false_iff_eq.mpr c4
    clear c4
    obtain rfl := Option.some.inj H
    go_enter Try.func65, Try.ntmps65
    go_wp2
    go_ret
    exact ⟨by first | rfl | (simp; done) | (simp [*]; done), by repeat (first | exact Drawn0.refl _ | apply Drawn0.step)⟩
   ·
    rw [if_neg c4] at H
    have c4b0 : (a0 == 3) = false := beq_eq_false_iff_ne.mpr c4
    have c4b1 : (a0 != 3) = true := bne_iff_ne.mpr c4
    obtain rfl := Option.some.inj H
    go_enter Try.func65, Try.ntmps65
    go_wp2
    go_ret
    exact ⟨by first | rfl | (simp; done) | (simp [*]; done), by repeat (first | exact Drawn0.refl _ | apply Drawn0.step)⟩

end Go.Proofs.Ytefgbocbhohkeaa.P
