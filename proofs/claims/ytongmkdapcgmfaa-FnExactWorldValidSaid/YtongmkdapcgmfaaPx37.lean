-- Written by a program of this session (wip/tool).
import Derived.Test.YtongmkdapcgmfaaPx0
import Derived.Test.YtongmkdapcgmfaaPx35
import Derived.Test.YtongmkdapcgmfaaPx36
namespace Go.Proofs.Ytongmkdapcgmfaa.P
open Go.RowKit Go.Proofs.YtongmkdapcgmfaaW.PrintWords Go.Proofs.YtongmkdapcgmfaaW.PrintLast Go.Proofs.YtongmkdapcgmfaaW.PrintMore
attribute [local go_sem] max2_int min2_int max_two min_two max_three min_three max_four min_four   -- for this text's walks alone
set_option linter.unusedVariables false
set_option linter.unusedSimpArgs false

/-! ### impl_WorldValid: function 34 -/
def impl_WorldValid.l0 : Nat → List (S92) → List (S92) → Int → Int → Option (Bool)
 | 0, _, _, _, _ => none
 | k + 1, x0, x8, x9, x10 => if x10 < x9 then (if 0 ≤ x10 then (if x10 < (x8.length : Int) then ((impl_ascends.f k ((rd_T92 x8 x10).f0) 0 (wrap64 (x10 - 1))).bind fun t595 => (if t595 = true then ((impl_fieldsValid.f k ((rd_T92 x8 x10).f1) (x0.length : Int)).bind fun t596 => (if t596 = true then (impl_WorldValid.l0 k x0 x8 x9 (wrap64 (x10 + 1))) else (some false))) else (some false))) else (none)) else (none)) else (some true)
def impl_WorldValid.f (k : Nat) (l0 : List (S92)) : Option (Bool) := if (l0.length : Int) > 7 then (some false) else (impl_WorldValid.l0 k l0 l0 (l0.length : Int) 0)
theorem impl_WorldValid.mono_l : ∀ k, (∀ y0 y1 y2 y3, LeO (impl_WorldValid.l0 k y0 y1 y2 y3) (impl_WorldValid.l0 (k + 1) y0 y1 y2 y3))
 | 0 => fun _ _ _ _ r h => by simp [impl_WorldValid.l0] at h
 | k + 1 => by
  have ih0 := impl_WorldValid.mono_l k
  ·
   intro y0 y1 y2 y3
   unfold impl_WorldValid.l0
   repeat' first
   | (with_reducible exact ih0 _ _ _ _)
   | (with_reducible exact impl_ascends.mono _ _ _ _)
   | (with_reducible exact impl_fieldsValid.mono _ _ _)
   | (with_reducible exact LeO.refl _)
   | (with_reducible exact LeO.none _)
   | (with_reducible refine LeO.ite ?_ ?_)
   | (with_reducible refine LeO.bind ?_ (fun _ => ?_))
   | exact ih0 _ _ _ _
   | exact impl_ascends.mono _ _ _ _
   | exact impl_fieldsValid.mono _ _ _
   | exact LeO.none _
   | refine LeO.ite ?_ ?_
   | refine LeO.bind ?_ (fun _ => ?_)
theorem impl_WorldValid.mono : ∀ a0 k, LeO (impl_WorldValid.f k a0) (impl_WorldValid.f (k + 1) a0) := by
 intro a0 k
 have ih0 := impl_WorldValid.mono_l k
 unfold impl_WorldValid.f
 repeat' first
   | (with_reducible exact ih0 _ _ _ _)
   | (with_reducible exact impl_ascends.mono _ _ _ _)
   | (with_reducible exact impl_fieldsValid.mono _ _ _)
   | (with_reducible exact LeO.refl _)
   | (with_reducible exact LeO.none _)
   | (with_reducible refine LeO.ite ?_ ?_)
   | (with_reducible refine LeO.bind ?_ (fun _ => ?_))
   | exact ih0 _ _ _ _
   | exact impl_ascends.mono _ _ _ _
   | exact impl_fieldsValid.mono _ _ _
   | exact LeO.none _
   | refine LeO.ite ?_ ?_
   | refine LeO.bind ?_ (fun _ => ?_)
set_option maxHeartbeats 8000000 in
set_option maxRecDepth 100000 in
theorem impl_WorldValid.calls (k : Nat) (A0 : Option Addr) (c0 : Nat) (l0 : List (S92)) (r : Bool) (w : World) (hr0 : Kd.C k92 w A0 l0.length l0) (hc0 : l0.length ≤ c0) (h : impl_WorldValid.f k l0 = some r) :
  Calls Try.prog 34 #[.slice A0 l0.length c0] w fun e w' => e = .returned (.bool r) ∧ Below w.heap.size w w' := by
 have hu92 := Try.underlying92
 have HR0 := Aside0.mk hr0
 have HC0 := Aside0.mk hc0
 clear hr0 hc0
 have HB := Aside0.mk (Below.refl w.heap.size w)
 have H : (if (l0.length : Int) > 7 then (some false) else (impl_WorldValid.l0 k l0 l0 (l0.length : Int) 0)) = some r := h
 clear h
 by_cases c2 : (l0.length : Int) > 7
 ·
  rw [if_pos c2] at H
  have c2b0 : decide (7 < (l0.length : Int)) = true := decide_eq_true c2
  have c2b1 : decide (7 < l0.length) = true := decide_eq_true (by omega)
  clear c2
  obtain rfl := Option.some.inj H
  go_enter Try.func34, Try.ntmps34
  go_wp2
  go_ret
  exact ⟨by first | rfl | (simp [errW_none, errW_some] <;> rfl) | (simp [*, errW_none, errW_some] <;> rfl), by exact bw HB.out⟩
 ·
  rw [if_neg c2] at H
  have c2b0 : decide (7 < (l0.length : Int)) = false := decide_eq_false c2
  have c2b1 : decide (7 < l0.length) = false := decide_eq_false (by omega)
  clear c2
  have H' := Aside0.mk H
  clear H
  go_enter Try.func34, Try.ntmps34
  go_wp2
  go_loopg [10] k (fun kq v10 w' => ∃ (x10_1 : Int), v10 = .int .i64 x10_1 ∧ Aside0 (impl_WorldValid.l0 kq l0 l0 (l0.length : Int) x10_1 = some r) ∧ Aside0 (kq ≤ k) ∧ Aside0 (Below w.heap.size w w'))
  case atStart => exact ⟨(0), (by first | rfl | (simp; done) | (simp [*]; done)), H', ⟨Nat.le_refl _⟩, ⟨by exact bw HB.out⟩⟩
  case round =>
   clear H'
   try clear c2
   try clear c2b0
   try clear c2b1
   try clear p2
   obtain ⟨x10_1, rfl, HA, HK1, HB⟩ := hrel
   cases gk with
   | zero => exact absurd HA.out (by simp [impl_WorldValid.l0])
   | succ k1 =>
    have H := HA.out
    clear HA
    simp only [impl_WorldValid.l0] at H
    by_cases c3 : x10_1 < (l0.length : Int)
    ·
     rw [if_pos c3] at H
     have c3b0 : decide (x10_1 < (l0.length : Int)) = true := decide_eq_true c3
     clear c3
     by_cases c4 : 0 ≤ x10_1
     ·
      rw [if_pos c4] at H
      have c4b0 : decide (0 ≤ x10_1) = true := decide_eq_true c4
      clear c4
      by_cases c5 : x10_1 < (l0.length : Int)
      ·
       rw [if_pos c5] at H
       have c5b0 : decide (x10_1 < (l0.length : Int)) = true := decide_eq_true c5
       clear c5
       replace H := Option.bind_eq_some_iff.mp H
       obtain ⟨t595, A60, H⟩ := H
       replace H : (if t595 = true then ((impl_fieldsValid.f k1 ((rd_T92 l0 x10_1).f1) (l0.length : Int)).bind fun t596 => (if t596 = true then (impl_WorldValid.l0 k1 l0 l0 (l0.length : Int) (wrap64 (x10_1 + 1))) else (some false))) else (some false)) = some r := H
       have A6 := Aside0.mk A60
       clear A60
       by_cases c7 : t595 = true
       ·
        subst c7
        have H1 : ((impl_fieldsValid.f k1 ((rd_T92 l0 x10_1).f1) (l0.length : Int)).bind fun t596 => (if t596 = true then (impl_WorldValid.l0 k1 l0 l0 (l0.length : Int) (wrap64 (x10_1 + 1))) else (some false))) = some r := by rw [if_pos rfl] at H; exact H
        clear H
        have H := H1
        clear H1
        replace H := Option.bind_eq_some_iff.mp H
        obtain ⟨t596, A80, H⟩ := H
        replace H : (if t596 = true then (impl_WorldValid.l0 k1 l0 l0 (l0.length : Int) (wrap64 (x10_1 + 1))) else (some false)) = some r := H
        have A8 := Aside0.mk A80
        clear A80
        by_cases c9 : t596 = true
        ·
         subst c9
         have H1 : (impl_WorldValid.l0 k1 l0 l0 (l0.length : Int) (wrap64 (x10_1 + 1))) = some r := by rw [if_pos rfl] at H; exact H
         clear H
         have H := H1
         clear H1
         have H' := Aside0.mk H
         clear H
         have p593 : 0 ≤ (x10_1 : Int) := of_decide_eq_true (by first | (with_reducible assumption) | assumption)
         have q593 : x10_1 < (l0.length : Int) := of_decide_eq_true (by first | (with_reducible assumption) | assumption)
         obtain ⟨ad593, A593_0, c593_0, A593_1, c593_1, e593, hx593_0, hx593_1, hl593_0, hi593_0, hl593_1, hi593_1⟩ := at_T92 HR0.out x10_1 p593 q593
         cases e593
         first | replace hx593_0 := (HB.out.cell (World.block_lt_of_cell? w _ hx593_0)).trans hx593_0 | skip
         first | replace hx593_1 := (HB.out.cell (World.block_lt_of_cell? w _ hx593_1)).trans hx593_1 | skip
         have HR593_0 := Aside0.mk hi593_0
         have HC593_0 := Aside0.mk hl593_0
         clear hi593_0 hl593_0
         have HR593_1 := Aside0.mk hi593_1
         have HC593_1 := Aside0.mk hl593_1
         clear hi593_1 hl593_1
         replace p593 := eq_true p593
         replace q593 := eq_true q593
         go_wp2_with (first | ((with_reducible refine gate_dst (N := 4) rfl ?_); (try (refine gate_guard (by rfl) ?_; dsimp only)); refine box_event ?hg (N := 4) ?hd (cs := #[.slice none 0 0, .slice none 0 0]) (t := 92) ?hr ?_; (case hd => rfl); (case hg => rfl); (case hr => first | (go_simp; done) | (go_simp; rfl)); intro gb594 hg w10 hbox hb; have n0_ := Aside0.mk (below_step (by exact bw HB.out) hb); have n1_ := Aside0.mk (hbox); have n2_ := Aside0.mk ((by rw [hg]; exact (below_size (by exact bw HB.out)) : w.heap.size ≤ gb594)); have n3_ := Aside0.mk ((by rw [hg]; exact (below_size (by exact bw HB.out)) : w.heap.size ≤ gb594)); clear HB; have HB := n0_; have BK594 := n1_; have GW594 := n2_; have GE594 := n3_; clear n0_ n1_ n2_ n3_; clear hb hbox hg; have hcz11_0 : w10.cell? ⟨gb594, 0, none⟩ = some (.slice none 0 0) := (blk_cell BK594.out 0).trans rfl; have hcz11_1 : w10.cell? ⟨gb594, 1, none⟩ = some (.slice none 0 0) := (blk_cell BK594.out 1).trans rfl; have hfz11_0 := blk_frozen BK594.out 0; have hfz11_1 := blk_frozen BK594.out 1) | ((with_reducible refine gate_callee (f := 70) rfl ?_); refine gl (some 19) Try.func70 #[.slice A593_0 ((rd_T92 l0 x10_1).f0).length c593_0, .int .i64 0, .int .i64 (wrap64 (x10_1 - 1))] ?_; (with_reducible refine (impl_ascends.calls k1 _ _ ((rd_T92 l0 x10_1).f0) 0 (wrap64 (x10_1 - 1)) true _ ?side1 ?side2 A6.out).mono ?_); (case side1 => exact Kd.C_below HR593_0.out (by exact bw HB.out)); (case side2 => exact HC593_0.out); rintro e w' ⟨rfl, ⟨nd, rfl⟩⟩; refine ⟨_, rfl, ?_⟩) | (go_at_call 62; (with_reducible refine (impl_fieldsValid.calls k1 _ _ ((rd_T92 l0 x10_1).f1) (l0.length : Int) true _ ?side1 ?side2 A8.out).mono ?_); (case side1 => exact Kd.C_below HR593_1.out (by exact bw HB.out)); (case side2 => exact HC593_1.out); rintro e w12 ⟨rfl, hb⟩; have n0_ := Aside0.mk (blk_below (g := gb594) (o := .cells #[.slice A593_0 ((rd_T92 l0 x10_1).f0).length c593_0, .slice A593_1 ((rd_T92 l0 x10_1).f1).length c593_1] 92 (0, 0)) (by (with_reducible repeat (first | refine blk_drewN ?_ _ | refine blk_drew ?_ | refine blk_alloc ?_ _)); refine blk_put (cs := #[.slice A593_0 ((rd_T92 l0 x10_1).f0).length c593_0, .slice none 0 0]) ?_ 1 _ rfl; (with_reducible repeat (first | refine blk_drewN ?_ _ | refine blk_drew ?_ | refine blk_alloc ?_ _)); refine blk_put (cs := #[.slice none 0 0, .slice none 0 0]) ?_ 0 _ rfl; exact bk BK594.out) hb); have n1_ := Aside0.mk (below_step (by exact bw HB.out) hb); clear BK594; clear HB; have BK594 := n0_; have HB := n1_; clear n0_ n1_; (try clear hb); (try clear hb2); (try clear hk); (try clear hi)))
         go_roundg k1
         case measure => have := HK1.out; omega
         case rel => exact ⟨(wrap64 (x10_1 + 1)), (by first | rfl | (simp; done) | (simp [*]; done)), H', ⟨by have := HK1.out; omega⟩, ⟨by exact bw HB.out⟩⟩
        ·
         replace c9 := Bool.eq_false_iff.mpr c9
         subst c9
         have H1 : (some false) = some r := by rw [if_neg (show ¬ (false = true) by decide)] at H; exact H
         clear H
         have H := H1
         clear H1
         obtain rfl := Option.some.inj H
         have p593 : 0 ≤ (x10_1 : Int) := of_decide_eq_true (by first | (with_reducible assumption) | assumption)
         have q593 : x10_1 < (l0.length : Int) := of_decide_eq_true (by first | (with_reducible assumption) | assumption)
         obtain ⟨ad593, A593_0, c593_0, A593_1, c593_1, e593, hx593_0, hx593_1, hl593_0, hi593_0, hl593_1, hi593_1⟩ := at_T92 HR0.out x10_1 p593 q593
         cases e593
         first | replace hx593_0 := (HB.out.cell (World.block_lt_of_cell? w _ hx593_0)).trans hx593_0 | skip
         first | replace hx593_1 := (HB.out.cell (World.block_lt_of_cell? w _ hx593_1)).trans hx593_1 | skip
         have HR593_0 := Aside0.mk hi593_0
         have HC593_0 := Aside0.mk hl593_0
         clear hi593_0 hl593_0
         have HR593_1 := Aside0.mk hi593_1
         have HC593_1 := Aside0.mk hl593_1
         clear hi593_1 hl593_1
         replace p593 := eq_true p593
         replace q593 := eq_true q593
         go_wp2_with (first | ((with_reducible refine gate_dst (N := 4) rfl ?_); (try (refine gate_guard (by rfl) ?_; dsimp only)); refine box_event ?hg (N := 4) ?hd (cs := #[.slice none 0 0, .slice none 0 0]) (t := 92) ?hr ?_; (case hd => rfl); (case hg => rfl); (case hr => first | (go_simp; done) | (go_simp; rfl)); intro gb594 hg w13 hbox hb; have n0_ := Aside0.mk (below_step (by exact bw HB.out) hb); have n1_ := Aside0.mk (hbox); have n2_ := Aside0.mk ((by rw [hg]; exact (below_size (by exact bw HB.out)) : w.heap.size ≤ gb594)); have n3_ := Aside0.mk ((by rw [hg]; exact (below_size (by exact bw HB.out)) : w.heap.size ≤ gb594)); clear HB; have HB := n0_; have BK594 := n1_; have GW594 := n2_; have GE594 := n3_; clear n0_ n1_ n2_ n3_; clear hb hbox hg; have hcz14_0 : w13.cell? ⟨gb594, 0, none⟩ = some (.slice none 0 0) := (blk_cell BK594.out 0).trans rfl; have hcz14_1 : w13.cell? ⟨gb594, 1, none⟩ = some (.slice none 0 0) := (blk_cell BK594.out 1).trans rfl; have hfz14_0 := blk_frozen BK594.out 0; have hfz14_1 := blk_frozen BK594.out 1) | ((with_reducible refine gate_callee (f := 70) rfl ?_); refine gl (some 19) Try.func70 #[.slice A593_0 ((rd_T92 l0 x10_1).f0).length c593_0, .int .i64 0, .int .i64 (wrap64 (x10_1 - 1))] ?_; (with_reducible refine (impl_ascends.calls k1 _ _ ((rd_T92 l0 x10_1).f0) 0 (wrap64 (x10_1 - 1)) true _ ?side1 ?side2 A6.out).mono ?_); (case side1 => exact Kd.C_below HR593_0.out (by exact bw HB.out)); (case side2 => exact HC593_0.out); rintro e w' ⟨rfl, ⟨nd, rfl⟩⟩; refine ⟨_, rfl, ?_⟩) | (go_at_call 62; (with_reducible refine (impl_fieldsValid.calls k1 _ _ ((rd_T92 l0 x10_1).f1) (l0.length : Int) false _ ?side1 ?side2 A8.out).mono ?_); (case side1 => exact Kd.C_below HR593_1.out (by exact bw HB.out)); (case side2 => exact HC593_1.out); rintro e w15 ⟨rfl, hb⟩; have n0_ := Aside0.mk (blk_below (g := gb594) (o := .cells #[.slice A593_0 ((rd_T92 l0 x10_1).f0).length c593_0, .slice A593_1 ((rd_T92 l0 x10_1).f1).length c593_1] 92 (0, 0)) (by (with_reducible repeat (first | refine blk_drewN ?_ _ | refine blk_drew ?_ | refine blk_alloc ?_ _)); refine blk_put (cs := #[.slice A593_0 ((rd_T92 l0 x10_1).f0).length c593_0, .slice none 0 0]) ?_ 1 _ rfl; (with_reducible repeat (first | refine blk_drewN ?_ _ | refine blk_drew ?_ | refine blk_alloc ?_ _)); refine blk_put (cs := #[.slice none 0 0, .slice none 0 0]) ?_ 0 _ rfl; exact bk BK594.out) hb); have n1_ := Aside0.mk (below_step (by exact bw HB.out) hb); clear BK594; clear HB; have BK594 := n0_; have HB := n1_; clear n0_ n1_; (try clear hb); (try clear hb2); (try clear hk); (try clear hi)))
         go_ret
         exact ⟨by first | rfl | (simp [errW_none, errW_some] <;> rfl) | (simp [*, errW_none, errW_some] <;> rfl), by exact bw HB.out⟩
       ·
        replace c7 := Bool.eq_false_iff.mpr c7
        subst c7
        have H1 : (some false) = some r := by rw [if_neg (show ¬ (false = true) by decide)] at H; exact H
        clear H
        have H := H1
        clear H1
        obtain rfl := Option.some.inj H
        have p593 : 0 ≤ (x10_1 : Int) := of_decide_eq_true (by first | (with_reducible assumption) | assumption)
        have q593 : x10_1 < (l0.length : Int) := of_decide_eq_true (by first | (with_reducible assumption) | assumption)
        obtain ⟨ad593, A593_0, c593_0, A593_1, c593_1, e593, hx593_0, hx593_1, hl593_0, hi593_0, hl593_1, hi593_1⟩ := at_T92 HR0.out x10_1 p593 q593
        cases e593
        first | replace hx593_0 := (HB.out.cell (World.block_lt_of_cell? w _ hx593_0)).trans hx593_0 | skip
        first | replace hx593_1 := (HB.out.cell (World.block_lt_of_cell? w _ hx593_1)).trans hx593_1 | skip
        have HR593_0 := Aside0.mk hi593_0
        have HC593_0 := Aside0.mk hl593_0
        clear hi593_0 hl593_0
        have HR593_1 := Aside0.mk hi593_1
        have HC593_1 := Aside0.mk hl593_1
        clear hi593_1 hl593_1
        replace p593 := eq_true p593
        replace q593 := eq_true q593
        go_wp2_with (first | ((with_reducible refine gate_dst (N := 4) rfl ?_); (try (refine gate_guard (by rfl) ?_; dsimp only)); refine box_event ?hg (N := 4) ?hd (cs := #[.slice none 0 0, .slice none 0 0]) (t := 92) ?hr ?_; (case hd => rfl); (case hg => rfl); (case hr => first | (go_simp; done) | (go_simp; rfl)); intro gb594 hg w16 hbox hb; have n0_ := Aside0.mk (below_step (by exact bw HB.out) hb); have n1_ := Aside0.mk (hbox); have n2_ := Aside0.mk ((by rw [hg]; exact (below_size (by exact bw HB.out)) : w.heap.size ≤ gb594)); have n3_ := Aside0.mk ((by rw [hg]; exact (below_size (by exact bw HB.out)) : w.heap.size ≤ gb594)); clear HB; have HB := n0_; have BK594 := n1_; have GW594 := n2_; have GE594 := n3_; clear n0_ n1_ n2_ n3_; clear hb hbox hg; have hcz17_0 : w16.cell? ⟨gb594, 0, none⟩ = some (.slice none 0 0) := (blk_cell BK594.out 0).trans rfl; have hcz17_1 : w16.cell? ⟨gb594, 1, none⟩ = some (.slice none 0 0) := (blk_cell BK594.out 1).trans rfl; have hfz17_0 := blk_frozen BK594.out 0; have hfz17_1 := blk_frozen BK594.out 1) | ((with_reducible refine gate_callee (f := 70) rfl ?_); refine gl (some 19) Try.func70 #[.slice A593_0 ((rd_T92 l0 x10_1).f0).length c593_0, .int .i64 0, .int .i64 (wrap64 (x10_1 - 1))] ?_; (with_reducible refine (impl_ascends.calls k1 _ _ ((rd_T92 l0 x10_1).f0) 0 (wrap64 (x10_1 - 1)) false _ ?side1 ?side2 A6.out).mono ?_); (case side1 => exact Kd.C_below HR593_0.out (by exact bw HB.out)); (case side2 => exact HC593_0.out); rintro e w' ⟨rfl, ⟨nd, rfl⟩⟩; refine ⟨_, rfl, ?_⟩))
        go_ret
        exact ⟨by first | rfl | (simp [errW_none, errW_some] <;> rfl) | (simp [*, errW_none, errW_some] <;> rfl), by exact bw HB.out⟩
      ·
       rw [if_neg c5] at H
       exact absurd H (by simp)
     ·
      rw [if_neg c4] at H
      exact absurd H (by simp)
    ·
     rw [if_neg c3] at H
     have c3b0 : decide (x10_1 < (l0.length : Int)) = false := decide_eq_false c3
     clear c3
     obtain rfl := Option.some.inj H
     go_wp2
     go_ret
     exact ⟨by first | rfl | (simp [errW_none, errW_some] <;> rfl) | (simp [*, errW_none, errW_some] <;> rfl), by exact bw HB.out⟩

end Go.Proofs.Ytongmkdapcgmfaa.P
