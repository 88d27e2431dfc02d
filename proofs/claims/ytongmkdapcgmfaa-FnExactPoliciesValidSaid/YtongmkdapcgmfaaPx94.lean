-- Written by a program of this session (wip/tool).
import Derived.Test.YtongmkdapcgmfaaPx0
import Derived.Test.YtongmkdapcgmfaaPx26
namespace Go.Proofs.Ytongmkdapcgmfaa.P
open Go.RowKit Go.Proofs.YtongmkdapcgmfaaW.PrintWords Go.Proofs.YtongmkdapcgmfaaW.PrintLast Go.Proofs.YtongmkdapcgmfaaW.PrintMore
attribute [local go_sem] max2_int min2_int max_two min_two max_three min_three max_four min_four   -- for this text's walks alone
set_option linter.unusedVariables false
set_option linter.unusedSimpArgs false

/-! ### spec_PoliciesValid: function 40 -/
mutual
def spec_PoliciesValid.l0 : Nat → List (S27) → Int → Option (Bool)
 | 0, _, _ => none
 | k + 1, x0, x3 => if x3 < (x0.length : Int) then (if 0 ≤ x3 then ((spec_PolicyValid.f k ((rd_T27 x0 x3).f0) ((rd_T27 x0 x3).f1) ((rd_T27 x0 x3).f2) ((rd_T27 x0 x3).f3) ((rd_T27 x0 x3).f4) ((rd_T27 x0 x3).f5.f0) ((rd_T27 x0 x3).f5.f1) ((rd_T27 x0 x3).f5.f2) ((rd_T27 x0 x3).f5.f3)).bind fun t827 => (if t827 = true then (spec_PoliciesValid.j1 k x0 x3 (((rd_T27 x0 x3).f2) == (-2))) else (spec_PoliciesValid.j1 k x0 x3 true))) else (none)) else (some (decide ((x0.length : Int) ≤ 6)))
def spec_PoliciesValid.j1 : Nat → List (S27) → Int → Bool → Option (Bool)
 | 0, _, _, _ => none
 | k + 1, x0, x3, x24 => if x24 = true then (some false) else (spec_PoliciesValid.l1 k x0 x3 0)
def spec_PoliciesValid.l1 : Nat → List (S27) → Int → Int → Option (Bool)
 | 0, _, _, _ => none
 | k + 1, x0, x3, x4 => if x4 < x3 then (if 0 ≤ x4 then (if x4 < (x0.length : Int) then (if 0 ≤ x3 then (if x3 < (x0.length : Int) then (if ((rd_T27 x0 x4).f0).toList = ((rd_T27 x0 x3).f0).toList then (some false) else (spec_PoliciesValid.l1 k x0 x3 (wrap64 (x4 + 1)))) else (none)) else (none)) else (none)) else (none)) else (spec_PoliciesValid.l0 k x0 (wrap64 (x3 + 1)))
end
def spec_PoliciesValid.f (k : Nat) (l0 : List (S27)) : Option (Bool) := spec_PoliciesValid.l0 k l0 0
theorem spec_PoliciesValid.mono_l : ∀ k, (∀ y0 y1, LeO (spec_PoliciesValid.l0 k y0 y1) (spec_PoliciesValid.l0 (k + 1) y0 y1)) ∧ (∀ y0 y1 y2, LeO (spec_PoliciesValid.j1 k y0 y1 y2) (spec_PoliciesValid.j1 (k + 1) y0 y1 y2)) ∧ (∀ y0 y1 y2, LeO (spec_PoliciesValid.l1 k y0 y1 y2) (spec_PoliciesValid.l1 (k + 1) y0 y1 y2))
 | 0 => ⟨fun _ _ r h => by simp [spec_PoliciesValid.l0] at h, fun _ _ _ r h => by simp [spec_PoliciesValid.j1] at h, fun _ _ _ r h => by simp [spec_PoliciesValid.l1] at h⟩
 | k + 1 => by
  obtain ⟨ih0, ih1, ih2⟩ := spec_PoliciesValid.mono_l k
  refine ⟨?_, ?_, ?_⟩
  ·
   intro y0 y1
   unfold spec_PoliciesValid.l0
   repeat' first
   | (with_reducible exact ih0 _ _)
   | (with_reducible exact ih1 _ _ _)
   | (with_reducible exact ih2 _ _ _)
   | (with_reducible exact spec_PolicyValid.mono _ _ _ _ _ _ _ _ _ _)
   | (with_reducible exact LeO.refl _)
   | (with_reducible exact LeO.none _)
   | (with_reducible refine LeO.ite ?_ ?_)
   | (with_reducible refine LeO.bind ?_ (fun _ => ?_))
   | exact ih0 _ _
   | exact ih1 _ _ _
   | exact ih2 _ _ _
   | exact spec_PolicyValid.mono _ _ _ _ _ _ _ _ _ _
   | exact LeO.none _
   | refine LeO.ite ?_ ?_
   | refine LeO.bind ?_ (fun _ => ?_)
  ·
   intro y0 y1 y2
   unfold spec_PoliciesValid.j1
   repeat' first
   | (with_reducible exact ih0 _ _)
   | (with_reducible exact ih1 _ _ _)
   | (with_reducible exact ih2 _ _ _)
   | (with_reducible exact spec_PolicyValid.mono _ _ _ _ _ _ _ _ _ _)
   | (with_reducible exact LeO.refl _)
   | (with_reducible exact LeO.none _)
   | (with_reducible refine LeO.ite ?_ ?_)
   | (with_reducible refine LeO.bind ?_ (fun _ => ?_))
   | exact ih0 _ _
   | exact ih1 _ _ _
   | exact ih2 _ _ _
   | exact spec_PolicyValid.mono _ _ _ _ _ _ _ _ _ _
   | exact LeO.none _
   | refine LeO.ite ?_ ?_
   | refine LeO.bind ?_ (fun _ => ?_)
  ·
   intro y0 y1 y2
   unfold spec_PoliciesValid.l1
   repeat' first
   | (with_reducible exact ih0 _ _)
   | (with_reducible exact ih1 _ _ _)
   | (with_reducible exact ih2 _ _ _)
   | (with_reducible exact spec_PolicyValid.mono _ _ _ _ _ _ _ _ _ _)
   | (with_reducible exact LeO.refl _)
   | (with_reducible exact LeO.none _)
   | (with_reducible refine LeO.ite ?_ ?_)
   | (with_reducible refine LeO.bind ?_ (fun _ => ?_))
   | exact ih0 _ _
   | exact ih1 _ _ _
   | exact ih2 _ _ _
   | exact spec_PolicyValid.mono _ _ _ _ _ _ _ _ _ _
   | exact LeO.none _
   | refine LeO.ite ?_ ?_
   | refine LeO.bind ?_ (fun _ => ?_)
theorem spec_PoliciesValid.mono : ∀ a0 k, LeO (spec_PoliciesValid.f k a0) (spec_PoliciesValid.f (k + 1) a0) := by
 intro a0 k
 obtain ⟨ih0, ih1, ih2⟩ := spec_PoliciesValid.mono_l k
 unfold spec_PoliciesValid.f
 repeat' first
   | (with_reducible exact ih0 _ _)
   | (with_reducible exact ih1 _ _ _)
   | (with_reducible exact ih2 _ _ _)
   | (with_reducible exact spec_PolicyValid.mono _ _ _ _ _ _ _ _ _ _)
   | (with_reducible exact LeO.refl _)
   | (with_reducible exact LeO.none _)
   | (with_reducible refine LeO.ite ?_ ?_)
   | (with_reducible refine LeO.bind ?_ (fun _ => ?_))
   | exact ih0 _ _
   | exact ih1 _ _ _
   | exact ih2 _ _ _
   | exact spec_PolicyValid.mono _ _ _ _ _ _ _ _ _ _
   | exact LeO.none _
   | refine LeO.ite ?_ ?_
   | refine LeO.bind ?_ (fun _ => ?_)
set_option maxHeartbeats 8000000 in
set_option maxRecDepth 100000 in
theorem spec_PoliciesValid.calls (k : Nat) (A0 : Option Addr) (c0 : Nat) (l0 : List (S27)) (r : Bool) (w : World) (hr0 : Kd.C k27 w A0 l0.length l0) (hc0 : l0.length ≤ c0) (h : spec_PoliciesValid.f k l0 = some r) :
  Calls Try.prog 40 #[.slice A0 l0.length c0] w fun e w' => e = .returned (.bool r) ∧ Below w.heap.size w w' := by
 have hu27 := Try.underlying27
 have HR0 := Aside0.mk hr0
 have HC0 := Aside0.mk hc0
 clear hr0 hc0
 have HB := Aside0.mk (Below.refl w.heap.size w)
 have H : (spec_PoliciesValid.l0 k l0 0) = some r := h
 clear h
 have H' := Aside0.mk H
 clear H
 go_enter Try.func40, Try.ntmps40
 go_wp2
 repeat (go_quiet (fail); try go_wp2)
 go_loopg [3] k (fun kq v3 w' => ∃ (x3_1 : Int), v3 = .int .i64 x3_1 ∧ Aside0 (spec_PoliciesValid.l0 kq l0 x3_1 = some r) ∧ Aside0 (kq ≤ k) ∧ Aside0 (Below w.heap.size w w'))
 case atStart => exact ⟨(0), (by first | rfl | (simp; done) | (simp [*]; done)), H', ⟨Nat.le_refl _⟩, ⟨by exact bw HB.out⟩⟩
 case round =>
  clear H'
  obtain ⟨x3_1, rfl, HA, HK1, HB⟩ := hrel
  cases gk with
  | zero => exact absurd HA.out (by simp [spec_PoliciesValid.l0])
  | succ k1 =>
   have H := HA.out
   clear HA
   simp only [spec_PoliciesValid.l0] at H
   by_cases c2 : x3_1 < (l0.length : Int)
   ·
    rw [if_pos c2] at H
    have c2b0 : decide (x3_1 < (l0.length : Int)) = true := decide_eq_true c2
    clear c2
    have HC3 := Aside0.mk H
    clear H
    go_upto_region 4 with (fail)
    repeat (go_quiet (fail); go_upto_region 4 with (fail))
    go_cut [24] (fun v24 wc => ∃ (kq : Nat) (x24_2 : Bool), v24 = .bool x24_2 ∧ Aside0 (spec_PoliciesValid.j1 kq l0 x3_1 x24_2 = some r) ∧ Aside0 (kq ≤ k1) ∧ Aside0 (Below w.heap.size w wc))
    case first =>
     have H := HC3.out
     clear HC3
     by_cases c4 : 0 ≤ x3_1
     ·
      rw [if_pos c4] at H
      have c4b0 : decide (0 ≤ x3_1) = true := decide_eq_true c4
      clear c4
      (first | rw [c4b0] | (simp only [i64_w, i32_w]; rw [c4b0]) | rw [c4b2] | rw [c4b1] | skip)
      replace H := Option.bind_eq_some_iff.mp H
      obtain ⟨t827, A50, H⟩ := H
      replace H : (if t827 = true then (spec_PoliciesValid.j1 k1 l0 x3_1 (((rd_T27 l0 x3_1).f2) == (-2))) else (spec_PoliciesValid.j1 k1 l0 x3_1 true)) = some r := H
      have A5 := Aside0.mk A50
      clear A50
      by_cases c6 : t827 = true
      ·
       subst c6
       have H1 : (spec_PoliciesValid.j1 k1 l0 x3_1 (((rd_T27 l0 x3_1).f2) == (-2))) = some r := by rw [if_pos rfl] at H; exact H
       clear H
       have H := H1
       clear H1
       have H' := Aside0.mk H
       clear H
       have p826 : 0 ≤ (x3_1 : Int) := of_decide_eq_true (by first | (with_reducible assumption) | assumption)
       have q826 : x3_1 < (l0.length : Int) := of_decide_eq_true (by first | (with_reducible assumption) | assumption)
       obtain ⟨ad826, A826_8, c826_8, e826, hx826_0, hx826_1, hx826_2, hx826_3, hx826_4, hx826_5, hx826_6, hx826_7, hx826_8, hl826_8, hi826_8⟩ := at_T27 HR0.out x3_1 p826 q826
       cases e826
       first | replace hx826_0 := (HB.out.cell (World.block_lt_of_cell? w _ hx826_0)).trans hx826_0 | skip
       first | replace hx826_1 := (HB.out.cell (World.block_lt_of_cell? w _ hx826_1)).trans hx826_1 | skip
       first | replace hx826_2 := (HB.out.cell (World.block_lt_of_cell? w _ hx826_2)).trans hx826_2 | skip
       first | replace hx826_3 := (HB.out.cell (World.block_lt_of_cell? w _ hx826_3)).trans hx826_3 | skip
       first | replace hx826_4 := (HB.out.cell (World.block_lt_of_cell? w _ hx826_4)).trans hx826_4 | skip
       first | replace hx826_5 := (HB.out.cell (World.block_lt_of_cell? w _ hx826_5)).trans hx826_5 | skip
       first | replace hx826_6 := (HB.out.cell (World.block_lt_of_cell? w _ hx826_6)).trans hx826_6 | skip
       first | replace hx826_7 := (HB.out.cell (World.block_lt_of_cell? w _ hx826_7)).trans hx826_7 | skip
       first | replace hx826_8 := (HB.out.cell (World.block_lt_of_cell? w _ hx826_8)).trans hx826_8 | skip
       have HR826_8 := Aside0.mk hi826_8
       have HC826_8 := Aside0.mk hl826_8
       clear hi826_8 hl826_8
       replace p826 := eq_true p826
       replace q826 := eq_true q826
       go_wp2_with (first | (go_at_call 13; (with_reducible refine (spec_PolicyValid.calls k1 ((rd_T27 l0 x3_1).f0) ((rd_T27 l0 x3_1).f1) ((rd_T27 l0 x3_1).f2) ((rd_T27 l0 x3_1).f3) ((rd_T27 l0 x3_1).f4) ((rd_T27 l0 x3_1).f5.f0) ((rd_T27 l0 x3_1).f5.f1) ((rd_T27 l0 x3_1).f5.f2) _ _ ((rd_T27 l0 x3_1).f5.f3) true _ ?side1 ?side2 A5.out).mono ?_); (case side1 => repeat (first | exact (Kd.C_below HR826_8.out HB.out) | (with_reducible refine Kd.C_alloc ?_ _) | (with_reducible refine Kd.C_drewN ?_ _) | (with_reducible refine Kd.C_drew ?_))); (case side2 => exact HC826_8.out); rintro e w7 ⟨rfl, hb⟩; have n0_ := Aside0.mk (below_step (by exact bw HB.out) hb); clear HB; have HB := n0_; clear n0_; (try clear hb); (try clear hb2); (try clear hk); (try clear hi); have p828 : 0 ≤ (x3_1 : Int) := of_decide_eq_true (by first | (with_reducible assumption) | assumption); have q828 : x3_1 < (l0.length : Int) := of_decide_eq_true (by first | (with_reducible assumption) | assumption); obtain ⟨ad828, A828_8, c828_8, e828, hx828_0, hx828_1, hx828_2, hx828_3, hx828_4, hx828_5, hx828_6, hx828_7, hx828_8, hl828_8, hi828_8⟩ := at_T27 HR0.out x3_1 p828 q828; obtain rfl : ad826 = ad828 := (by injection e828); replace hx828_0 := (HB.out.cell (World.block_lt_of_cell? w _ hx828_0)).trans hx828_0; replace hx828_1 := (HB.out.cell (World.block_lt_of_cell? w _ hx828_1)).trans hx828_1; replace hx828_2 := (HB.out.cell (World.block_lt_of_cell? w _ hx828_2)).trans hx828_2; replace hx828_3 := (HB.out.cell (World.block_lt_of_cell? w _ hx828_3)).trans hx828_3; replace hx828_4 := (HB.out.cell (World.block_lt_of_cell? w _ hx828_4)).trans hx828_4; replace hx828_5 := (HB.out.cell (World.block_lt_of_cell? w _ hx828_5)).trans hx828_5; replace hx828_6 := (HB.out.cell (World.block_lt_of_cell? w _ hx828_6)).trans hx828_6; replace hx828_7 := (HB.out.cell (World.block_lt_of_cell? w _ hx828_7)).trans hx828_7; replace hx828_8 := (HB.out.cell (World.block_lt_of_cell? w _ hx828_8)).trans hx828_8; have HR828_8 := Aside0.mk hi828_8; have HC828_8 := Aside0.mk hl828_8; clear hi828_8 hl828_8; replace p828 := eq_true p828; replace q828 := eq_true q828))
       repeat (go_quiet (first | (go_at_call 13; (with_reducible refine (spec_PolicyValid.calls k1 ((rd_T27 l0 x3_1).f0) ((rd_T27 l0 x3_1).f1) ((rd_T27 l0 x3_1).f2) ((rd_T27 l0 x3_1).f3) ((rd_T27 l0 x3_1).f4) ((rd_T27 l0 x3_1).f5.f0) ((rd_T27 l0 x3_1).f5.f1) ((rd_T27 l0 x3_1).f5.f2) _ _ ((rd_T27 l0 x3_1).f5.f3) true _ ?side1 ?side2 A5.out).mono ?_); (case side1 => repeat (first | exact (Kd.C_below HR826_8.out HB.out) | (with_reducible refine Kd.C_alloc ?_ _) | (with_reducible refine Kd.C_drewN ?_ _) | (with_reducible refine Kd.C_drew ?_))); (case side2 => exact HC826_8.out); rintro e w7 ⟨rfl, hb⟩; have n0_ := Aside0.mk (below_step (by exact bw HB.out) hb); clear HB; have HB := n0_; clear n0_; (try clear hb); (try clear hb2); (try clear hk); (try clear hi); have p828 : 0 ≤ (x3_1 : Int) := of_decide_eq_true (by first | (with_reducible assumption) | assumption); have q828 : x3_1 < (l0.length : Int) := of_decide_eq_true (by first | (with_reducible assumption) | assumption); obtain ⟨ad828, A828_8, c828_8, e828, hx828_0, hx828_1, hx828_2, hx828_3, hx828_4, hx828_5, hx828_6, hx828_7, hx828_8, hl828_8, hi828_8⟩ := at_T27 HR0.out x3_1 p828 q828; obtain rfl : ad826 = ad828 := (by injection e828); replace hx828_0 := (HB.out.cell (World.block_lt_of_cell? w _ hx828_0)).trans hx828_0; replace hx828_1 := (HB.out.cell (World.block_lt_of_cell? w _ hx828_1)).trans hx828_1; replace hx828_2 := (HB.out.cell (World.block_lt_of_cell? w _ hx828_2)).trans hx828_2; replace hx828_3 := (HB.out.cell (World.block_lt_of_cell? w _ hx828_3)).trans hx828_3; replace hx828_4 := (HB.out.cell (World.block_lt_of_cell? w _ hx828_4)).trans hx828_4; replace hx828_5 := (HB.out.cell (World.block_lt_of_cell? w _ hx828_5)).trans hx828_5; replace hx828_6 := (HB.out.cell (World.block_lt_of_cell? w _ hx828_6)).trans hx828_6; replace hx828_7 := (HB.out.cell (World.block_lt_of_cell? w _ hx828_7)).trans hx828_7; replace hx828_8 := (HB.out.cell (World.block_lt_of_cell? w _ hx828_8)).trans hx828_8; have HR828_8 := Aside0.mk hi828_8; have HC828_8 := Aside0.mk hl828_8; clear hi828_8 hl828_8; replace p828 := eq_true p828; replace q828 := eq_true q828)); try go_wp2_with (first | (go_at_call 13; (with_reducible refine (spec_PolicyValid.calls k1 ((rd_T27 l0 x3_1).f0) ((rd_T27 l0 x3_1).f1) ((rd_T27 l0 x3_1).f2) ((rd_T27 l0 x3_1).f3) ((rd_T27 l0 x3_1).f4) ((rd_T27 l0 x3_1).f5.f0) ((rd_T27 l0 x3_1).f5.f1) ((rd_T27 l0 x3_1).f5.f2) _ _ ((rd_T27 l0 x3_1).f5.f3) true _ ?side1 ?side2 A5.out).mono ?_); (case side1 => repeat (first | exact (Kd.C_below HR826_8.out HB.out) | (with_reducible refine Kd.C_alloc ?_ _) | (with_reducible refine Kd.C_drewN ?_ _) | (with_reducible refine Kd.C_drew ?_))); (case side2 => exact HC826_8.out); rintro e w7 ⟨rfl, hb⟩; have n0_ := Aside0.mk (below_step (by exact bw HB.out) hb); clear HB; have HB := n0_; clear n0_; (try clear hb); (try clear hb2); (try clear hk); (try clear hi); have p828 : 0 ≤ (x3_1 : Int) := of_decide_eq_true (by first | (with_reducible assumption) | assumption); have q828 : x3_1 < (l0.length : Int) := of_decide_eq_true (by first | (with_reducible assumption) | assumption); obtain ⟨ad828, A828_8, c828_8, e828, hx828_0, hx828_1, hx828_2, hx828_3, hx828_4, hx828_5, hx828_6, hx828_7, hx828_8, hl828_8, hi828_8⟩ := at_T27 HR0.out x3_1 p828 q828; obtain rfl : ad826 = ad828 := (by injection e828); replace hx828_0 := (HB.out.cell (World.block_lt_of_cell? w _ hx828_0)).trans hx828_0; replace hx828_1 := (HB.out.cell (World.block_lt_of_cell? w _ hx828_1)).trans hx828_1; replace hx828_2 := (HB.out.cell (World.block_lt_of_cell? w _ hx828_2)).trans hx828_2; replace hx828_3 := (HB.out.cell (World.block_lt_of_cell? w _ hx828_3)).trans hx828_3; replace hx828_4 := (HB.out.cell (World.block_lt_of_cell? w _ hx828_4)).trans hx828_4; replace hx828_5 := (HB.out.cell (World.block_lt_of_cell? w _ hx828_5)).trans hx828_5; replace hx828_6 := (HB.out.cell (World.block_lt_of_cell? w _ hx828_6)).trans hx828_6; replace hx828_7 := (HB.out.cell (World.block_lt_of_cell? w _ hx828_7)).trans hx828_7; replace hx828_8 := (HB.out.cell (World.block_lt_of_cell? w _ hx828_8)).trans hx828_8; have HR828_8 := Aside0.mk hi828_8; have HC828_8 := Aside0.mk hl828_8; clear hi828_8 hl828_8; replace p828 := eq_true p828; replace q828 := eq_true q828)))
       go_meet
       case rel => exact ⟨_, ((((rd_T27 l0 x3_1).f2) == (-2))), (by first | rfl | (simp; done) | (simp [*]; done)), H', ⟨by have := HK1.out; first | omega | exact Nat.le_refl _⟩, ⟨by exact bw HB.out⟩⟩
      ·
       replace c6 := Bool.eq_false_iff.mpr c6
       subst c6
       have H1 : (spec_PoliciesValid.j1 k1 l0 x3_1 true) = some r := by rw [if_neg (show ¬ (false = true) by decide)] at H; exact H
       clear H
       have H := H1
       clear H1
       have H' := Aside0.mk H
       clear H
       have p826 : 0 ≤ (x3_1 : Int) := of_decide_eq_true (by first | (with_reducible assumption) | assumption)
       have q826 : x3_1 < (l0.length : Int) := of_decide_eq_true (by first | (with_reducible assumption) | assumption)
       obtain ⟨ad826, A826_8, c826_8, e826, hx826_0, hx826_1, hx826_2, hx826_3, hx826_4, hx826_5, hx826_6, hx826_7, hx826_8, hl826_8, hi826_8⟩ := at_T27 HR0.out x3_1 p826 q826
       cases e826
       first | replace hx826_0 := (HB.out.cell (World.block_lt_of_cell? w _ hx826_0)).trans hx826_0 | skip
       first | replace hx826_1 := (HB.out.cell (World.block_lt_of_cell? w _ hx826_1)).trans hx826_1 | skip
       first | replace hx826_2 := (HB.out.cell (World.block_lt_of_cell? w _ hx826_2)).trans hx826_2 | skip
       first | replace hx826_3 := (HB.out.cell (World.block_lt_of_cell? w _ hx826_3)).trans hx826_3 | skip
       first | replace hx826_4 := (HB.out.cell (World.block_lt_of_cell? w _ hx826_4)).trans hx826_4 | skip
       first | replace hx826_5 := (HB.out.cell (World.block_lt_of_cell? w _ hx826_5)).trans hx826_5 | skip
       first | replace hx826_6 := (HB.out.cell (World.block_lt_of_cell? w _ hx826_6)).trans hx826_6 | skip
       first | replace hx826_7 := (HB.out.cell (World.block_lt_of_cell? w _ hx826_7)).trans hx826_7 | skip
       first | replace hx826_8 := (HB.out.cell (World.block_lt_of_cell? w _ hx826_8)).trans hx826_8 | skip
       have HR826_8 := Aside0.mk hi826_8
       have HC826_8 := Aside0.mk hl826_8
       clear hi826_8 hl826_8
       replace p826 := eq_true p826
       replace q826 := eq_true q826
       go_wp2_with (first | (go_at_call 13; (with_reducible refine (spec_PolicyValid.calls k1 ((rd_T27 l0 x3_1).f0) ((rd_T27 l0 x3_1).f1) ((rd_T27 l0 x3_1).f2) ((rd_T27 l0 x3_1).f3) ((rd_T27 l0 x3_1).f4) ((rd_T27 l0 x3_1).f5.f0) ((rd_T27 l0 x3_1).f5.f1) ((rd_T27 l0 x3_1).f5.f2) _ _ ((rd_T27 l0 x3_1).f5.f3) false _ ?side1 ?side2 A5.out).mono ?_); (case side1 => repeat (first | exact (Kd.C_below HR826_8.out HB.out) | (with_reducible refine Kd.C_alloc ?_ _) | (with_reducible refine Kd.C_drewN ?_ _) | (with_reducible refine Kd.C_drew ?_))); (case side2 => exact HC826_8.out); rintro e w8 ⟨rfl, hb⟩; have n0_ := Aside0.mk (below_step (by exact bw HB.out) hb); clear HB; have HB := n0_; clear n0_; (try clear hb); (try clear hb2); (try clear hk); (try clear hi)))
       repeat (go_quiet (first | (go_at_call 13; (with_reducible refine (spec_PolicyValid.calls k1 ((rd_T27 l0 x3_1).f0) ((rd_T27 l0 x3_1).f1) ((rd_T27 l0 x3_1).f2) ((rd_T27 l0 x3_1).f3) ((rd_T27 l0 x3_1).f4) ((rd_T27 l0 x3_1).f5.f0) ((rd_T27 l0 x3_1).f5.f1) ((rd_T27 l0 x3_1).f5.f2) _ _ ((rd_T27 l0 x3_1).f5.f3) false _ ?side1 ?side2 A5.out).mono ?_); (case side1 => repeat (first | exact (Kd.C_below HR826_8.out HB.out) | (with_reducible refine Kd.C_alloc ?_ _) | (with_reducible refine Kd.C_drewN ?_ _) | (with_reducible refine Kd.C_drew ?_))); (case side2 => exact HC826_8.out); rintro e w8 ⟨rfl, hb⟩; have n0_ := Aside0.mk (below_step (by exact bw HB.out) hb); clear HB; have HB := n0_; clear n0_; (try clear hb); (try clear hb2); (try clear hk); (try clear hi))); try go_wp2_with (first | (go_at_call 13; (with_reducible refine (spec_PolicyValid.calls k1 ((rd_T27 l0 x3_1).f0) ((rd_T27 l0 x3_1).f1) ((rd_T27 l0 x3_1).f2) ((rd_T27 l0 x3_1).f3) ((rd_T27 l0 x3_1).f4) ((rd_T27 l0 x3_1).f5.f0) ((rd_T27 l0 x3_1).f5.f1) ((rd_T27 l0 x3_1).f5.f2) _ _ ((rd_T27 l0 x3_1).f5.f3) false _ ?side1 ?side2 A5.out).mono ?_); (case side1 => repeat (first | exact (Kd.C_below HR826_8.out HB.out) | (with_reducible refine Kd.C_alloc ?_ _) | (with_reducible refine Kd.C_drewN ?_ _) | (with_reducible refine Kd.C_drew ?_))); (case side2 => exact HC826_8.out); rintro e w8 ⟨rfl, hb⟩; have n0_ := Aside0.mk (below_step (by exact bw HB.out) hb); clear HB; have HB := n0_; clear n0_; (try clear hb); (try clear hb2); (try clear hk); (try clear hi))))
       go_meet
       case rel => exact ⟨_, (true), (by first | rfl | (simp; done) | (simp [*]; done)), H', ⟨by have := HK1.out; first | omega | exact Nat.le_refl _⟩, ⟨by exact bw HB.out⟩⟩
     ·
      rw [if_neg c4] at H
      exact absurd H (by simp)
    case rest =>
     clear HC3
     try clear c2
     try clear c2b0
     try clear p2
     try clear c4
     try clear c4b0
     try clear c4b1
     try clear c4b2
     try clear c6
     try clear c8
     try clear p8
     try clear q8
     try clear hx8
     try clear hx826_0
     try clear hx826_1
     try clear hx826_2
     try clear hx826_3
     try clear hx826_4
     try clear hx826_5
     try clear hx826_6
     try clear hx826_7
     try clear hx826_8
     try clear hx828_0
     try clear hx828_1
     try clear hx828_2
     try clear hx828_3
     try clear hx828_4
     try clear hx828_5
     try clear hx828_6
     try clear hx828_7
     try clear hx828_8
     try clear p826
     try clear p828
     try clear q826
     try clear q828
     obtain ⟨kq, x24_2, rfl, HA, HJ2, HB⟩ := hcut
     cases kq with
     | zero => exact absurd HA.out (by simp [spec_PoliciesValid.j1])
     | succ kj2 =>
      have H := HA.out
      clear HA
      simp only [spec_PoliciesValid.j1] at H
      by_cases c9 : x24_2 = true
      ·
       subst c9
       have H1 : (some false) = some r := by rw [if_pos rfl] at H; exact H
       clear H
       have H := H1
       clear H1
       obtain rfl := Option.some.inj H
       go_wp2
       repeat (go_quiet (fail); try go_wp2)
       go_ret
       exact ⟨by first | rfl | (simp [errW_none, errW_some] <;> rfl) | (simp [*, errW_none, errW_some] <;> rfl), by exact bw HB.out⟩
      ·
       replace c9 := Bool.eq_false_iff.mpr c9
       subst c9
       have H1 : (spec_PoliciesValid.l1 kj2 l0 x3_1 0) = some r := by rw [if_neg (show ¬ (false = true) by decide)] at H; exact H
       clear H
       have H := H1
       clear H1
       have H' := Aside0.mk H
       clear H
       go_wp2
       repeat (go_quiet (fail); try go_wp2)
       go_loopg [4] kj2 (fun kq v4 w' => ∃ (x4_3 : Int), v4 = .int .i64 x4_3 ∧ Aside0 (spec_PoliciesValid.l1 kq l0 x3_1 x4_3 = some r) ∧ Aside0 (kq ≤ kj2) ∧ Aside0 (Below w.heap.size w w'))
       case atStart => exact ⟨(0), (by first | rfl | (simp; done) | (simp [*]; done)), H', ⟨Nat.le_refl _⟩, ⟨by exact bw HB.out⟩⟩
       case round =>
        clear H'
        try clear c2
        try clear c2b0
        try clear p2
        try clear c4
        try clear c4b0
        try clear c4b1
        try clear c4b2
        try clear c6
        try clear c8
        try clear p8
        try clear q8
        try clear hx8
        try clear c9
        try clear hx826_0
        try clear hx826_1
        try clear hx826_2
        try clear hx826_3
        try clear hx826_4
        try clear hx826_5
        try clear hx826_6
        try clear hx826_7
        try clear hx826_8
        try clear hx828_0
        try clear hx828_1
        try clear hx828_2
        try clear hx828_3
        try clear hx828_4
        try clear hx828_5
        try clear hx828_6
        try clear hx828_7
        try clear hx828_8
        try clear p2
        try clear p8
        try clear p826
        try clear p828
        try clear q8
        try clear q826
        try clear q828
        obtain ⟨x4_3, rfl, HA, HK3, HB⟩ := hrel
        cases gk with
        | zero => exact absurd HA.out (by simp [spec_PoliciesValid.l1])
        | succ k3 =>
         have H := HA.out
         clear HA
         simp only [spec_PoliciesValid.l1] at H
         by_cases c10 : x4_3 < x3_1
         ·
          rw [if_pos c10] at H
          have c10b0 : decide (x4_3 < x3_1) = true := decide_eq_true c10
          clear c10
          by_cases c11 : 0 ≤ x4_3
          ·
           rw [if_pos c11] at H
           have c11b0 : decide (0 ≤ x4_3) = true := decide_eq_true c11
           clear c11
           by_cases c12 : x4_3 < (l0.length : Int)
           ·
            rw [if_pos c12] at H
            have c12b0 : decide (x4_3 < (l0.length : Int)) = true := decide_eq_true c12
            clear c12
            by_cases c13 : 0 ≤ x3_1
            ·
             rw [if_pos c13] at H
             have c13b0 : decide (0 ≤ x3_1) = true := decide_eq_true c13
             clear c13
             by_cases c14 : x3_1 < (l0.length : Int)
             ·
              rw [if_pos c14] at H
              have c14b0 : decide (x3_1 < (l0.length : Int)) = true := decide_eq_true c14
              clear c14
              by_cases c15 : ((rd_T27 l0 x4_3).f0).toList = ((rd_T27 l0 x3_1).f0).toList
              ·
               rw [if_pos c15] at H
               have c15b0 : (((rd_T27 l0 x4_3).f0).toList == ((rd_T27 l0 x3_1).f0).toList) = true := beq_iff_eq.mpr c15
               have c15b1 : (((rd_T27 l0 x4_3).f0).toList != ((rd_T27 l0 x3_1).f0).toList) = false := bne_eq_false_iff_eq.mpr c15
               clear c15
               obtain rfl := Option.some.inj H
               have p829 : 0 ≤ (x4_3 : Int) := of_decide_eq_true (by first | (with_reducible assumption) | assumption)
               have q829 : x4_3 < (l0.length : Int) := of_decide_eq_true (by first | (with_reducible assumption) | assumption)
               obtain ⟨ad829, A829_8, c829_8, e829, hx829_0, hx829_1, hx829_2, hx829_3, hx829_4, hx829_5, hx829_6, hx829_7, hx829_8, hl829_8, hi829_8⟩ := at_T27 HR0.out x4_3 p829 q829
               cases e829
               first | replace hx829_0 := (HB.out.cell (World.block_lt_of_cell? w _ hx829_0)).trans hx829_0 | skip
               first | replace hx829_1 := (HB.out.cell (World.block_lt_of_cell? w _ hx829_1)).trans hx829_1 | skip
               first | replace hx829_2 := (HB.out.cell (World.block_lt_of_cell? w _ hx829_2)).trans hx829_2 | skip
               first | replace hx829_3 := (HB.out.cell (World.block_lt_of_cell? w _ hx829_3)).trans hx829_3 | skip
               first | replace hx829_4 := (HB.out.cell (World.block_lt_of_cell? w _ hx829_4)).trans hx829_4 | skip
               first | replace hx829_5 := (HB.out.cell (World.block_lt_of_cell? w _ hx829_5)).trans hx829_5 | skip
               first | replace hx829_6 := (HB.out.cell (World.block_lt_of_cell? w _ hx829_6)).trans hx829_6 | skip
               first | replace hx829_7 := (HB.out.cell (World.block_lt_of_cell? w _ hx829_7)).trans hx829_7 | skip
               first | replace hx829_8 := (HB.out.cell (World.block_lt_of_cell? w _ hx829_8)).trans hx829_8 | skip
               have HR829_8 := Aside0.mk hi829_8
               have HC829_8 := Aside0.mk hl829_8
               clear hi829_8 hl829_8
               replace p829 := eq_true p829
               replace q829 := eq_true q829
               have p830 : 0 ≤ (x3_1 : Int) := of_decide_eq_true (by first | (with_reducible assumption) | assumption)
               have q830 : x3_1 < (l0.length : Int) := of_decide_eq_true (by first | (with_reducible assumption) | assumption)
               obtain ⟨ad830, A830_8, c830_8, e830, hx830_0, hx830_1, hx830_2, hx830_3, hx830_4, hx830_5, hx830_6, hx830_7, hx830_8, hl830_8, hi830_8⟩ := at_T27 HR0.out x3_1 p830 q830
               obtain rfl : ad829 = ad830 := (by injection e830)
               first | replace hx830_0 := (HB.out.cell (World.block_lt_of_cell? w _ hx830_0)).trans hx830_0 | skip
               first | replace hx830_1 := (HB.out.cell (World.block_lt_of_cell? w _ hx830_1)).trans hx830_1 | skip
               first | replace hx830_2 := (HB.out.cell (World.block_lt_of_cell? w _ hx830_2)).trans hx830_2 | skip
               first | replace hx830_3 := (HB.out.cell (World.block_lt_of_cell? w _ hx830_3)).trans hx830_3 | skip
               first | replace hx830_4 := (HB.out.cell (World.block_lt_of_cell? w _ hx830_4)).trans hx830_4 | skip
               first | replace hx830_5 := (HB.out.cell (World.block_lt_of_cell? w _ hx830_5)).trans hx830_5 | skip
               first | replace hx830_6 := (HB.out.cell (World.block_lt_of_cell? w _ hx830_6)).trans hx830_6 | skip
               first | replace hx830_7 := (HB.out.cell (World.block_lt_of_cell? w _ hx830_7)).trans hx830_7 | skip
               first | replace hx830_8 := (HB.out.cell (World.block_lt_of_cell? w _ hx830_8)).trans hx830_8 | skip
               have HR830_8 := Aside0.mk hi830_8
               have HC830_8 := Aside0.mk hl830_8
               clear hi830_8 hl830_8
               replace p830 := eq_true p830
               replace q830 := eq_true q830
               go_wp2
               repeat (go_quiet (fail); try go_wp2)
               go_ret
               exact ⟨by first | rfl | (simp [errW_none, errW_some] <;> rfl) | (simp [*, errW_none, errW_some] <;> rfl), by exact bw HB.out⟩
              ·
               rw [if_neg c15] at H
               have c15b0 : (((rd_T27 l0 x4_3).f0).toList == ((rd_T27 l0 x3_1).f0).toList) = false := beq_eq_false_iff_ne.mpr c15
               have c15b1 : (((rd_T27 l0 x4_3).f0).toList != ((rd_T27 l0 x3_1).f0).toList) = true := bne_iff_ne.mpr c15
               have H' := Aside0.mk H
               clear H
               have p829 : 0 ≤ (x4_3 : Int) := of_decide_eq_true (by first | (with_reducible assumption) | assumption)
               have q829 : x4_3 < (l0.length : Int) := of_decide_eq_true (by first | (with_reducible assumption) | assumption)
               obtain ⟨ad829, A829_8, c829_8, e829, hx829_0, hx829_1, hx829_2, hx829_3, hx829_4, hx829_5, hx829_6, hx829_7, hx829_8, hl829_8, hi829_8⟩ := at_T27 HR0.out x4_3 p829 q829
               cases e829
               first | replace hx829_0 := (HB.out.cell (World.block_lt_of_cell? w _ hx829_0)).trans hx829_0 | skip
               first | replace hx829_1 := (HB.out.cell (World.block_lt_of_cell? w _ hx829_1)).trans hx829_1 | skip
               first | replace hx829_2 := (HB.out.cell (World.block_lt_of_cell? w _ hx829_2)).trans hx829_2 | skip
               first | replace hx829_3 := (HB.out.cell (World.block_lt_of_cell? w _ hx829_3)).trans hx829_3 | skip
               first | replace hx829_4 := (HB.out.cell (World.block_lt_of_cell? w _ hx829_4)).trans hx829_4 | skip
               first | replace hx829_5 := (HB.out.cell (World.block_lt_of_cell? w _ hx829_5)).trans hx829_5 | skip
               first | replace hx829_6 := (HB.out.cell (World.block_lt_of_cell? w _ hx829_6)).trans hx829_6 | skip
               first | replace hx829_7 := (HB.out.cell (World.block_lt_of_cell? w _ hx829_7)).trans hx829_7 | skip
               first | replace hx829_8 := (HB.out.cell (World.block_lt_of_cell? w _ hx829_8)).trans hx829_8 | skip
               have HR829_8 := Aside0.mk hi829_8
               have HC829_8 := Aside0.mk hl829_8
               clear hi829_8 hl829_8
               replace p829 := eq_true p829
               replace q829 := eq_true q829
               have p830 : 0 ≤ (x3_1 : Int) := of_decide_eq_true (by first | (with_reducible assumption) | assumption)
               have q830 : x3_1 < (l0.length : Int) := of_decide_eq_true (by first | (with_reducible assumption) | assumption)
               obtain ⟨ad830, A830_8, c830_8, e830, hx830_0, hx830_1, hx830_2, hx830_3, hx830_4, hx830_5, hx830_6, hx830_7, hx830_8, hl830_8, hi830_8⟩ := at_T27 HR0.out x3_1 p830 q830
               obtain rfl : ad829 = ad830 := (by injection e830)
               first | replace hx830_0 := (HB.out.cell (World.block_lt_of_cell? w _ hx830_0)).trans hx830_0 | skip
               first | replace hx830_1 := (HB.out.cell (World.block_lt_of_cell? w _ hx830_1)).trans hx830_1 | skip
               first | replace hx830_2 := (HB.out.cell (World.block_lt_of_cell? w _ hx830_2)).trans hx830_2 | skip
               first | replace hx830_3 := (HB.out.cell (World.block_lt_of_cell? w _ hx830_3)).trans hx830_3 | skip
               first | replace hx830_4 := (HB.out.cell (World.block_lt_of_cell? w _ hx830_4)).trans hx830_4 | skip
               first | replace hx830_5 := (HB.out.cell (World.block_lt_of_cell? w _ hx830_5)).trans hx830_5 | skip
               first | replace hx830_6 := (HB.out.cell (World.block_lt_of_cell? w _ hx830_6)).trans hx830_6 | skip
               first | replace hx830_7 := (HB.out.cell (World.block_lt_of_cell? w _ hx830_7)).trans hx830_7 | skip
               first | replace hx830_8 := (HB.out.cell (World.block_lt_of_cell? w _ hx830_8)).trans hx830_8 | skip
               have HR830_8 := Aside0.mk hi830_8
               have HC830_8 := Aside0.mk hl830_8
               clear hi830_8 hl830_8
               replace p830 := eq_true p830
               replace q830 := eq_true q830
               go_wp2
               repeat (go_quiet (fail); try go_wp2)
               go_roundg k3
               case measure => have := HK1.out; have := HJ2.out; have := HK3.out; omega
               case rel => exact ⟨(wrap64 (x4_3 + 1)), (by first | rfl | (simp; done) | (simp [*]; done)), H', ⟨by have := HK1.out; have := HJ2.out; have := HK3.out; omega⟩, ⟨by exact bw HB.out⟩⟩
             ·
              rw [if_neg c14] at H
              exact absurd H (by simp)
            ·
             rw [if_neg c13] at H
             exact absurd H (by simp)
           ·
            rw [if_neg c12] at H
            exact absurd H (by simp)
          ·
           rw [if_neg c11] at H
           exact absurd H (by simp)
         ·
          rw [if_neg c10] at H
          have c10b0 : decide (x4_3 < x3_1) = false := decide_eq_false c10
          clear c10
          have H' := Aside0.mk H
          clear H
          go_wp2
          repeat (go_quiet (fail); try go_wp2)
          go_roundg k3
          case measure => have := HK1.out; have := HJ2.out; have := HK3.out; omega
          case rel => exact ⟨(wrap64 (x3_1 + 1)), (by first | rfl | (simp; done) | (simp [*]; done)), H', ⟨by have := HK1.out; have := HJ2.out; have := HK3.out; omega⟩, ⟨by exact bw HB.out⟩⟩
   ·
    rw [if_neg c2] at H
    have c2b0 : decide (x3_1 < (l0.length : Int)) = false := decide_eq_false c2
    clear c2
    obtain rfl := Option.some.inj H
    go_wp2
    repeat (go_quiet (fail); try go_wp2)
    go_ret
    exact ⟨by first | rfl | (simp [errW_none, errW_some] <;> rfl) | (simp [*, errW_none, errW_some] <;> rfl), by exact bw HB.out⟩

end Go.Proofs.Ytongmkdapcgmfaa.P
