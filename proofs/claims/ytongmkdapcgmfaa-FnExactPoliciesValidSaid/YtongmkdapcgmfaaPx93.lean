-- Written by a program of this session (wip/tool).
import Derived.Test.YtongmkdapcgmfaaPx0
import Derived.Test.YtongmkdapcgmfaaPx92
namespace Go.Proofs.Ytongmkdapcgmfaa.P
open Go.RowKit Go.Proofs.YtongmkdapcgmfaaW.PrintWords Go.Proofs.YtongmkdapcgmfaaW.PrintLast Go.Proofs.YtongmkdapcgmfaaW.PrintMore
attribute [local go_sem] max2_int min2_int max_two min_two max_three min_three max_four min_four   -- for this text's walks alone
set_option linter.unusedVariables false
set_option linter.unusedSimpArgs false

/-! ### laws_szPolicyS: function 39 -/
def laws_szPolicyS.l0 : Nat → List (S101) → Int → Int → Option (Int)
 | 0, _, _, _ => none
 | k + 1, x0, x1, x5 => if x5 < (x0.length : Int) then (if 0 ≤ x5 then ((laws_szPolicy.f k ((rd_T101 x0 x5).f0) ((rd_T101 x0 x5).f1) ((rd_T101 x0 x5).f2) ((rd_T101 x0 x5).f3) ((rd_T101 x0 x5).f4) ((rd_T101 x0 x5).f5.f0) ((rd_T101 x0 x5).f5.f1) ((rd_T101 x0 x5).f5.f2) ((rd_T101 x0 x5).f5.f3) x1).bind fun t825 => (if t825 < 0 then (some (-1)) else (laws_szPolicyS.l0 k x0 t825 (wrap64 (x5 + 1))))) else (none)) else (some x1)
def laws_szPolicyS.f (k : Nat) (l0 : List (S101)) (a1 : Int) : Option (Int) := if (wrap64 (a1 - (l0.length : Int))) < 0 then (some (-1)) else (laws_szPolicyS.l0 k l0 (wrap64 (a1 - (l0.length : Int))) 0)
theorem laws_szPolicyS.mono_l : ∀ k, (∀ y0 y1 y2, LeO (laws_szPolicyS.l0 k y0 y1 y2) (laws_szPolicyS.l0 (k + 1) y0 y1 y2))
 | 0 => fun _ _ _ r h => by simp [laws_szPolicyS.l0] at h
 | k + 1 => by
  have ih0 := laws_szPolicyS.mono_l k
  ·
   intro y0 y1 y2
   unfold laws_szPolicyS.l0
   repeat' first
   | (with_reducible exact ih0 _ _ _)
   | (with_reducible exact laws_szPolicy.mono _ _ _ _ _ _ _ _ _ _ _)
   | (with_reducible exact LeO.refl _)
   | (with_reducible exact LeO.none _)
   | (with_reducible refine LeO.ite ?_ ?_)
   | (with_reducible refine LeO.bind ?_ (fun _ => ?_))
   | exact ih0 _ _ _
   | exact laws_szPolicy.mono _ _ _ _ _ _ _ _ _ _ _
   | exact LeO.none _
   | refine LeO.ite ?_ ?_
   | refine LeO.bind ?_ (fun _ => ?_)
theorem laws_szPolicyS.mono : ∀ a0 a1 k, LeO (laws_szPolicyS.f k a0 a1) (laws_szPolicyS.f (k + 1) a0 a1) := by
 intro a0 a1 k
 have ih0 := laws_szPolicyS.mono_l k
 unfold laws_szPolicyS.f
 repeat' first
   | (with_reducible exact ih0 _ _ _)
   | (with_reducible exact laws_szPolicy.mono _ _ _ _ _ _ _ _ _ _ _)
   | (with_reducible exact LeO.refl _)
   | (with_reducible exact LeO.none _)
   | (with_reducible refine LeO.ite ?_ ?_)
   | (with_reducible refine LeO.bind ?_ (fun _ => ?_))
   | exact ih0 _ _ _
   | exact laws_szPolicy.mono _ _ _ _ _ _ _ _ _ _ _
   | exact LeO.none _
   | refine LeO.ite ?_ ?_
   | refine LeO.bind ?_ (fun _ => ?_)
set_option maxHeartbeats 8000000 in
set_option maxRecDepth 100000 in
theorem laws_szPolicyS.calls (k : Nat) (A0 : Option Addr) (c0 : Nat) (l0 : List (S101)) (a1 : Int) (r : Int) (w : World) (hr0 : Kd.C k101 w A0 l0.length l0) (hc0 : l0.length ≤ c0) (h : laws_szPolicyS.f k l0 a1 = some r) :
  Calls Try.prog 39 #[.slice A0 l0.length c0, .int .i64 a1] w fun e w' => e = .returned (.int .i64 r) ∧ Below w.heap.size w w' := by
 have hu101 := Try.underlying101
 have HR0 := Aside0.mk hr0
 have HC0 := Aside0.mk hc0
 clear hr0 hc0
 have HB := Aside0.mk (Below.refl w.heap.size w)
 have H : (if (wrap64 (a1 - (l0.length : Int))) < 0 then (some (-1)) else (laws_szPolicyS.l0 k l0 (wrap64 (a1 - (l0.length : Int))) 0)) = some r := h
 clear h
 by_cases c3 : (wrap64 (a1 - (l0.length : Int))) < 0
 ·
  rw [if_pos c3] at H
  have c3b0 : decide ((wrap64 (a1 - (l0.length : Int))) < 0) = true := decide_eq_true c3
  clear c3
  obtain rfl := Option.some.inj H
  go_enter Try.func39, Try.ntmps39
  go_wp2
  go_ret
  exact ⟨by first | rfl | (simp [errW_none, errW_some] <;> rfl) | (simp [*, errW_none, errW_some] <;> rfl), by exact bw HB.out⟩
 ·
  rw [if_neg c3] at H
  have c3b0 : decide ((wrap64 (a1 - (l0.length : Int))) < 0) = false := decide_eq_false c3
  clear c3
  have H' := Aside0.mk H
  clear H
  go_enter Try.func39, Try.ntmps39
  go_wp2
  go_loopg [1, 5] k (fun kq v1 v5 w' => ∃ (x1_1 : Int) (x5_1 : Int), v1 = .int .i64 x1_1 ∧ v5 = .int .i64 x5_1 ∧ Aside0 (laws_szPolicyS.l0 kq l0 x1_1 x5_1 = some r) ∧ Aside0 (kq ≤ k) ∧ Aside0 (Below w.heap.size w w'))
  case atStart => exact ⟨(wrap64 (a1 - (l0.length : Int))), (0), (by first | rfl | (simp; done) | (simp [*]; done)), (by first | rfl | (simp; done) | (simp [*]; done)), H', ⟨Nat.le_refl _⟩, ⟨by exact bw HB.out⟩⟩
  case round =>
   clear H'
   try clear p2
   try clear c3
   try clear c3b0
   obtain ⟨x1_1, x5_1, rfl, rfl, HA, HK1, HB⟩ := hrel
   cases gk with
   | zero => exact absurd HA.out (by simp [laws_szPolicyS.l0])
   | succ k1 =>
    have H := HA.out
    clear HA
    simp only [laws_szPolicyS.l0] at H
    by_cases c4 : x5_1 < (l0.length : Int)
    ·
     rw [if_pos c4] at H
     have c4b0 : decide (x5_1 < (l0.length : Int)) = true := decide_eq_true c4
     clear c4
     by_cases c5 : 0 ≤ x5_1
     ·
      rw [if_pos c5] at H
      have c5b0 : decide (0 ≤ x5_1) = true := decide_eq_true c5
      clear c5
      replace H := Option.bind_eq_some_iff.mp H
      obtain ⟨t825, A60, H⟩ := H
      replace H : (if t825 < 0 then (some (-1)) else (laws_szPolicyS.l0 k1 l0 t825 (wrap64 (x5_1 + 1)))) = some r := H
      have A6 := Aside0.mk A60
      clear A60
      by_cases c7 : t825 < 0
      ·
       rw [if_pos c7] at H
       have c7b0 : decide (t825 < 0) = true := decide_eq_true c7
       clear c7
       obtain rfl := Option.some.inj H
       have p824 : 0 ≤ (x5_1 : Int) := of_decide_eq_true (by first | (with_reducible assumption) | assumption)
       have q824 : x5_1 < (l0.length : Int) := of_decide_eq_true (by first | (with_reducible assumption) | assumption)
       obtain ⟨ad824, A824_8, c824_8, e824, hx824_0, hx824_1, hx824_2, hx824_3, hx824_4, hx824_5, hx824_6, hx824_7, hx824_8, hl824_8, hi824_8⟩ := at_T101 HR0.out x5_1 p824 q824
       cases e824
       first | replace hx824_0 := (HB.out.cell (World.block_lt_of_cell? w _ hx824_0)).trans hx824_0 | skip
       first | replace hx824_1 := (HB.out.cell (World.block_lt_of_cell? w _ hx824_1)).trans hx824_1 | skip
       first | replace hx824_2 := (HB.out.cell (World.block_lt_of_cell? w _ hx824_2)).trans hx824_2 | skip
       first | replace hx824_3 := (HB.out.cell (World.block_lt_of_cell? w _ hx824_3)).trans hx824_3 | skip
       first | replace hx824_4 := (HB.out.cell (World.block_lt_of_cell? w _ hx824_4)).trans hx824_4 | skip
       first | replace hx824_5 := (HB.out.cell (World.block_lt_of_cell? w _ hx824_5)).trans hx824_5 | skip
       first | replace hx824_6 := (HB.out.cell (World.block_lt_of_cell? w _ hx824_6)).trans hx824_6 | skip
       first | replace hx824_7 := (HB.out.cell (World.block_lt_of_cell? w _ hx824_7)).trans hx824_7 | skip
       first | replace hx824_8 := (HB.out.cell (World.block_lt_of_cell? w _ hx824_8)).trans hx824_8 | skip
       have HR824_8 := Aside0.mk hi824_8
       have HC824_8 := Aside0.mk hl824_8
       clear hi824_8 hl824_8
       replace p824 := eq_true p824
       replace q824 := eq_true q824
       go_wp2_with (first | ((with_reducible refine gate_callee (f := 72) rfl ?_); refine gl (some 23) Try.func72 #[.agg #[.string ((rd_T101 l0 x5_1).f0), .bool ((rd_T101 l0 x5_1).f1), .int .i64 ((rd_T101 l0 x5_1).f2), .int .i64 ((rd_T101 l0 x5_1).f3), .int .i64 ((rd_T101 l0 x5_1).f4), .int .i64 ((rd_T101 l0 x5_1).f5.f0), .int .i64 ((rd_T101 l0 x5_1).f5.f1), .string ((rd_T101 l0 x5_1).f5.f2), .slice A824_8 ((rd_T101 l0 x5_1).f5.f3).length c824_8], .int .i64 x1_1] ?_; (with_reducible refine (laws_szPolicy.calls k1 ((rd_T101 l0 x5_1).f0) ((rd_T101 l0 x5_1).f1) ((rd_T101 l0 x5_1).f2) ((rd_T101 l0 x5_1).f3) ((rd_T101 l0 x5_1).f4) ((rd_T101 l0 x5_1).f5.f0) ((rd_T101 l0 x5_1).f5.f1) ((rd_T101 l0 x5_1).f5.f2) _ _ ((rd_T101 l0 x5_1).f5.f3) x1_1 t825 _ ?side1 ?side2 A6.out).mono ?_); (case side1 => repeat (first | exact (Kd.C_below HR824_8.out HB.out) | (with_reducible refine Kd.C_alloc ?_ _) | (with_reducible refine Kd.C_drewN ?_ _) | (with_reducible refine Kd.C_drew ?_))); (case side2 => exact HC824_8.out); rintro e w8 ⟨rfl, hb⟩; refine ⟨_, rfl, ?_⟩; have n0_ := Aside0.mk (below_step (by exact bw HB.out) hb); clear HB; have HB := n0_; clear n0_; (try clear hb); (try clear hb2); (try clear hk); (try clear hi)))
       go_ret
       exact ⟨by first | rfl | (simp [errW_none, errW_some] <;> rfl) | (simp [*, errW_none, errW_some] <;> rfl), by exact bw HB.out⟩
      ·
       rw [if_neg c7] at H
       have c7b0 : decide (t825 < 0) = false := decide_eq_false c7
       clear c7
       have H' := Aside0.mk H
       clear H
       have p824 : 0 ≤ (x5_1 : Int) := of_decide_eq_true (by first | (with_reducible assumption) | assumption)
       have q824 : x5_1 < (l0.length : Int) := of_decide_eq_true (by first | (with_reducible assumption) | assumption)
       obtain ⟨ad824, A824_8, c824_8, e824, hx824_0, hx824_1, hx824_2, hx824_3, hx824_4, hx824_5, hx824_6, hx824_7, hx824_8, hl824_8, hi824_8⟩ := at_T101 HR0.out x5_1 p824 q824
       cases e824
       first | replace hx824_0 := (HB.out.cell (World.block_lt_of_cell? w _ hx824_0)).trans hx824_0 | skip
       first | replace hx824_1 := (HB.out.cell (World.block_lt_of_cell? w _ hx824_1)).trans hx824_1 | skip
       first | replace hx824_2 := (HB.out.cell (World.block_lt_of_cell? w _ hx824_2)).trans hx824_2 | skip
       first | replace hx824_3 := (HB.out.cell (World.block_lt_of_cell? w _ hx824_3)).trans hx824_3 | skip
       first | replace hx824_4 := (HB.out.cell (World.block_lt_of_cell? w _ hx824_4)).trans hx824_4 | skip
       first | replace hx824_5 := (HB.out.cell (World.block_lt_of_cell? w _ hx824_5)).trans hx824_5 | skip
       first | replace hx824_6 := (HB.out.cell (World.block_lt_of_cell? w _ hx824_6)).trans hx824_6 | skip
       first | replace hx824_7 := (HB.out.cell (World.block_lt_of_cell? w _ hx824_7)).trans hx824_7 | skip
       first | replace hx824_8 := (HB.out.cell (World.block_lt_of_cell? w _ hx824_8)).trans hx824_8 | skip
       have HR824_8 := Aside0.mk hi824_8
       have HC824_8 := Aside0.mk hl824_8
       clear hi824_8 hl824_8
       replace p824 := eq_true p824
       replace q824 := eq_true q824
       go_wp2_with (first | ((with_reducible refine gate_callee (f := 72) rfl ?_); refine gl (some 23) Try.func72 #[.agg #[.string ((rd_T101 l0 x5_1).f0), .bool ((rd_T101 l0 x5_1).f1), .int .i64 ((rd_T101 l0 x5_1).f2), .int .i64 ((rd_T101 l0 x5_1).f3), .int .i64 ((rd_T101 l0 x5_1).f4), .int .i64 ((rd_T101 l0 x5_1).f5.f0), .int .i64 ((rd_T101 l0 x5_1).f5.f1), .string ((rd_T101 l0 x5_1).f5.f2), .slice A824_8 ((rd_T101 l0 x5_1).f5.f3).length c824_8], .int .i64 x1_1] ?_; (with_reducible refine (laws_szPolicy.calls k1 ((rd_T101 l0 x5_1).f0) ((rd_T101 l0 x5_1).f1) ((rd_T101 l0 x5_1).f2) ((rd_T101 l0 x5_1).f3) ((rd_T101 l0 x5_1).f4) ((rd_T101 l0 x5_1).f5.f0) ((rd_T101 l0 x5_1).f5.f1) ((rd_T101 l0 x5_1).f5.f2) _ _ ((rd_T101 l0 x5_1).f5.f3) x1_1 t825 _ ?side1 ?side2 A6.out).mono ?_); (case side1 => repeat (first | exact (Kd.C_below HR824_8.out HB.out) | (with_reducible refine Kd.C_alloc ?_ _) | (with_reducible refine Kd.C_drewN ?_ _) | (with_reducible refine Kd.C_drew ?_))); (case side2 => exact HC824_8.out); rintro e w9 ⟨rfl, hb⟩; refine ⟨_, rfl, ?_⟩; have n0_ := Aside0.mk (below_step (by exact bw HB.out) hb); clear HB; have HB := n0_; clear n0_; (try clear hb); (try clear hb2); (try clear hk); (try clear hi)))
       go_roundg k1
       case measure => have := HK1.out; omega
       case rel => exact ⟨(t825), (wrap64 (x5_1 + 1)), (by first | rfl | (simp; done) | (simp [*]; done)), (by first | rfl | (simp; done) | (simp [*]; done)), H', ⟨by have := HK1.out; omega⟩, ⟨by exact bw HB.out⟩⟩
     ·
      rw [if_neg c5] at H
      exact absurd H (by simp)
    ·
     rw [if_neg c4] at H
     have c4b0 : decide (x5_1 < (l0.length : Int)) = false := decide_eq_false c4
     clear c4
     obtain rfl := Option.some.inj H
     go_wp2
     go_ret
     exact ⟨by first | rfl | (simp [errW_none, errW_some] <;> rfl) | (simp [*, errW_none, errW_some] <;> rfl), by exact bw HB.out⟩

end Go.Proofs.Ytongmkdapcgmfaa.P
