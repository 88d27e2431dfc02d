-- Written by a program of this session (wip/tool).
import Derived.Test.YtongmkdapcgmfaaPx0
import Derived.Test.YtongmkdapcgmfaaPx100
namespace Go.Proofs.Ytongmkdapcgmfaa.P
open Go.RowKit Go.Proofs.YtongmkdapcgmfaaW.PrintWords Go.Proofs.YtongmkdapcgmfaaW.PrintLast Go.Proofs.YtongmkdapcgmfaaW.PrintMore
attribute [local go_sem] max2_int min2_int max_two min_two max_three min_three max_four min_four   -- for this text's walks alone
set_option linter.unusedVariables false
set_option linter.unusedSimpArgs false

/-! ### laws_eqPolicyS: function 43 -/
def laws_eqPolicyS.l0 : Nat → List (S27) → List (S27) → Int → Option (Bool)
 | 0, _, _, _ => none
 | k + 1, x0, x1, x5 => if x5 < (x0.length : Int) then (if 0 ≤ x5 then (if x5 < (x1.length : Int) then ((laws_eqPolicy.f k ((rd_T27 x0 x5).f0) ((rd_T27 x0 x5).f1) ((rd_T27 x0 x5).f2) ((rd_T27 x0 x5).f3) ((rd_T27 x0 x5).f4) ((rd_T27 x0 x5).f5.f0) ((rd_T27 x0 x5).f5.f1) ((rd_T27 x0 x5).f5.f2) ((rd_T27 x0 x5).f5.f3) ((rd_T27 x1 x5).f0) ((rd_T27 x1 x5).f1) ((rd_T27 x1 x5).f2) ((rd_T27 x1 x5).f3) ((rd_T27 x1 x5).f4) ((rd_T27 x1 x5).f5.f0) ((rd_T27 x1 x5).f5.f1) ((rd_T27 x1 x5).f5.f2) ((rd_T27 x1 x5).f5.f3)).bind fun t911 => (if t911 = true then (laws_eqPolicyS.l0 k x0 x1 (wrap64 (x5 + 1))) else (some false))) else (none)) else (none)) else (some true)
def laws_eqPolicyS.f (k : Nat) (l0 : List (S27)) (l1 : List (S27)) : Option (Bool) := if (l0.length : Int) = (l1.length : Int) then (laws_eqPolicyS.l0 k l0 l1 0) else (some false)
theorem laws_eqPolicyS.mono_l : ∀ k, (∀ y0 y1 y2, LeO (laws_eqPolicyS.l0 k y0 y1 y2) (laws_eqPolicyS.l0 (k + 1) y0 y1 y2))
 | 0 => fun _ _ _ r h => by simp [laws_eqPolicyS.l0] at h
 | k + 1 => by
  have ih0 := laws_eqPolicyS.mono_l k
  ·
   intro y0 y1 y2
   unfold laws_eqPolicyS.l0
   repeat' first
   | (with_reducible exact ih0 _ _ _)
   | (with_reducible exact laws_eqPolicy.mono _ _ _ _ _ _ _ _ _ _ _ _ _ _ _ _ _ _ _)
   | (with_reducible exact LeO.refl _)
   | (with_reducible exact LeO.none _)
   | (with_reducible refine LeO.ite ?_ ?_)
   | (with_reducible refine LeO.bind ?_ (fun _ => ?_))
   | exact ih0 _ _ _
   | exact laws_eqPolicy.mono _ _ _ _ _ _ _ _ _ _ _ _ _ _ _ _ _ _ _
   | exact LeO.none _
   | refine LeO.ite ?_ ?_
   | refine LeO.bind ?_ (fun _ => ?_)
theorem laws_eqPolicyS.mono : ∀ a0 a1 k, LeO (laws_eqPolicyS.f k a0 a1) (laws_eqPolicyS.f (k + 1) a0 a1) := by
 intro a0 a1 k
 have ih0 := laws_eqPolicyS.mono_l k
 unfold laws_eqPolicyS.f
 repeat' first
   | (with_reducible exact ih0 _ _ _)
   | (with_reducible exact laws_eqPolicy.mono _ _ _ _ _ _ _ _ _ _ _ _ _ _ _ _ _ _ _)
   | (with_reducible exact LeO.refl _)
   | (with_reducible exact LeO.none _)
   | (with_reducible refine LeO.ite ?_ ?_)
   | (with_reducible refine LeO.bind ?_ (fun _ => ?_))
   | exact ih0 _ _ _
   | exact laws_eqPolicy.mono _ _ _ _ _ _ _ _ _ _ _ _ _ _ _ _ _ _ _
   | exact LeO.none _
   | refine LeO.ite ?_ ?_
   | refine LeO.bind ?_ (fun _ => ?_)
def laws_eqPolicyS.T6 : Bool × List (List Nat × List Nat) := (true, [([], []), ([], []), ([0, 1], [0, 1]), ([2], [2]), ([], []), ([], []), ([4, 5], [4, 5]), ([6], [6]), ([3, 7], [3, 7]), ([8], [8])])
def laws_eqPolicyS.B6 : List Nat := [0, 0, 3, 7, 0, 0, 48, 112, 255, 511]
theorem laws_eqPolicyS.tab6 : rtab .any (opsOf Try.f43 6) = laws_eqPolicyS.T6 := by kernel_rfl
theorem laws_eqPolicyS.bits6 : waitsOk laws_eqPolicyS.T6.2 laws_eqPolicyS.B6 = true := by kernel_rfl
abbrev laws_eqPolicyS.m0 : Array Bool := #[false, false, false, false, false, false, false, false, false, false]
abbrev laws_eqPolicyS.m1 : Array Bool := #[true, false, false, false, false, false, false, false, false, false]
abbrev laws_eqPolicyS.m2 : Array Bool := #[true, true, false, false, false, false, false, false, false, false]
abbrev laws_eqPolicyS.m3 : Array Bool := #[true, true, true, false, false, false, false, false, false, false]
abbrev laws_eqPolicyS.m4 : Array Bool := #[true, true, true, false, true, false, false, false, false, false]
abbrev laws_eqPolicyS.m5 : Array Bool := #[true, true, true, false, true, true, false, false, false, false]
abbrev laws_eqPolicyS.m6 : Array Bool := #[true, true, true, false, true, true, true, false, false, false]
abbrev laws_eqPolicyS.m7 : Array Bool := #[true, true, true, true, true, true, true, false, false, false]
abbrev laws_eqPolicyS.m8 : Array Bool := #[true, true, true, true, true, true, true, true, false, false]
abbrev laws_eqPolicyS.m9 : Array Bool := #[true, true, true, true, true, true, true, true, true, false]
abbrev laws_eqPolicyS.m10 : Array Bool := #[true, true, true, true, true, true, true, true, true, true]
set_option maxHeartbeats 8000000 in
set_option maxRecDepth 100000 in
theorem laws_eqPolicyS.calls (k : Nat) (A0 : Option Addr) (c0 : Nat) (l0 : List (S27)) (A1 : Option Addr) (c1 : Nat) (l1 : List (S27)) (r : Bool) (w : World) (hr0 : Kd.C k27 w A0 l0.length l0) (hc0 : l0.length ≤ c0) (hr1 : Kd.C k27 w A1 l1.length l1) (hc1 : l1.length ≤ c1) (h : laws_eqPolicyS.f k l0 l1 = some r) :
  Calls Try.prog 43 #[.slice A0 l0.length c0, .slice A1 l1.length c1] w fun e w' => e = .returned (.bool r) ∧ Below w.heap.size w w' := by
 have hu27 := Try.underlying27
 have HR0 := Aside0.mk hr0
 have HC0 := Aside0.mk hc0
 clear hr0 hc0
 have HR1 := Aside0.mk hr1
 have HC1 := Aside0.mk hc1
 clear hr1 hc1
 have HB := Aside0.mk (Below.refl w.heap.size w)
 have H : (if (l0.length : Int) = (l1.length : Int) then (laws_eqPolicyS.l0 k l0 l1 0) else (some false)) = some r := h
 clear h
 by_cases c3 : (l0.length : Int) = (l1.length : Int)
 ·
  rw [if_pos c3] at H
  have c3b0 : ((l0.length : Int) == (l1.length : Int)) = true := beq_iff_eq.mpr c3
  have c3b1 : ((l0.length : Int) != (l1.length : Int)) = false := bne_eq_false_iff_eq.mpr c3
  have c3b2 : (l0.length == l1.length) = true := by first | simpa using c3 | (simp at c3 ⊢; omega)
  clear c3
  have H' := Aside0.mk H
  clear H
  go_enter Try.func43, Try.ntmps43
  go_wp2
  go_loopg [5] k (fun kq v5 w' => ∃ (x5_1 : Int), v5 = .int .i64 x5_1 ∧ Aside0 (laws_eqPolicyS.l0 kq l0 l1 x5_1 = some r) ∧ Aside0 (kq ≤ k) ∧ Aside0 (Below w.heap.size w w'))
  case atStart => exact ⟨(0), (by first | rfl | (simp; done) | (simp [*]; done)), H', ⟨Nat.le_refl _⟩, ⟨by exact bw HB.out⟩⟩
  case round =>
   clear H'
   try clear c1
   try clear p2
   try clear c3
   try clear c3b0
   try clear c3b1
   try clear c3b2
   obtain ⟨x5_1, rfl, HA, HK1, HB⟩ := hrel
   cases gk with
   | zero => exact absurd HA.out (by simp [laws_eqPolicyS.l0])
   | succ k1 =>
    have H := HA.out
    clear HA
    simp only [laws_eqPolicyS.l0] at H
    by_cases c4 : x5_1 < (l0.length : Int)
    ·
     rw [if_pos c4] at H
     have c4b0 : decide (x5_1 < (l0.length : Int)) = true := decide_eq_true c4
     clear c4
     by_cases c5 : 0 ≤ x5_1
     ·
      rw [if_pos c5] at H
      have c5b0 : decide (0 ≤ x5_1) = true := decide_eq_true c5
      clear c5
      by_cases c6 : x5_1 < (l1.length : Int)
      ·
       rw [if_pos c6] at H
       have c6b0 : decide (x5_1 < (l1.length : Int)) = true := decide_eq_true c6
       clear c6
       replace H := Option.bind_eq_some_iff.mp H
       obtain ⟨t911, A70, H⟩ := H
       replace H : (if t911 = true then (laws_eqPolicyS.l0 k1 l0 l1 (wrap64 (x5_1 + 1))) else (some false)) = some r := H
       have A7 := Aside0.mk A70
       clear A70
       by_cases c8 : t911 = true
       ·
        subst c8
        have H1 : (laws_eqPolicyS.l0 k1 l0 l1 (wrap64 (x5_1 + 1))) = some r := by rw [if_pos rfl] at H; exact H
        clear H
        have H := H1
        clear H1
        have H' := Aside0.mk H
        clear H
        try go_wp2
        have n0_ := Aside0.mk (below_drew1 HB.out)
        clear HB
        have HB := n0_
        clear n0_
        have p909 : 0 ≤ (x5_1 : Int) := of_decide_eq_true (by first | (with_reducible assumption) | assumption)
        have q909 : x5_1 < (l0.length : Int) := of_decide_eq_true (by first | (with_reducible assumption) | assumption)
        obtain ⟨ad909, A909_8, c909_8, e909, hx909_0, hx909_1, hx909_2, hx909_3, hx909_4, hx909_5, hx909_6, hx909_7, hx909_8, hl909_8, hi909_8⟩ := at_T27 HR0.out x5_1 p909 q909
        have hw909_8 := hx909_8
        have hw909_7 := hx909_7
        have hw909_6 := hx909_6
        have hw909_5 := hx909_5
        have hw909_4 := hx909_4
        have hw909_3 := hx909_3
        have hw909_2 := hx909_2
        have hw909_1 := hx909_1
        have hw909_0 := hx909_0
        cases e909
        first | replace hx909_0 := (HB.out.cell (World.block_lt_of_cell? w _ hx909_0)).trans hx909_0 | skip
        first | replace hx909_1 := (HB.out.cell (World.block_lt_of_cell? w _ hx909_1)).trans hx909_1 | skip
        first | replace hx909_2 := (HB.out.cell (World.block_lt_of_cell? w _ hx909_2)).trans hx909_2 | skip
        first | replace hx909_3 := (HB.out.cell (World.block_lt_of_cell? w _ hx909_3)).trans hx909_3 | skip
        first | replace hx909_4 := (HB.out.cell (World.block_lt_of_cell? w _ hx909_4)).trans hx909_4 | skip
        first | replace hx909_5 := (HB.out.cell (World.block_lt_of_cell? w _ hx909_5)).trans hx909_5 | skip
        first | replace hx909_6 := (HB.out.cell (World.block_lt_of_cell? w _ hx909_6)).trans hx909_6 | skip
        first | replace hx909_7 := (HB.out.cell (World.block_lt_of_cell? w _ hx909_7)).trans hx909_7 | skip
        first | replace hx909_8 := (HB.out.cell (World.block_lt_of_cell? w _ hx909_8)).trans hx909_8 | skip
        have HR909_8 := Aside0.mk hi909_8
        have HC909_8 := Aside0.mk hl909_8
        clear hi909_8 hl909_8
        replace p909 := eq_true p909
        replace q909 := eq_true q909
        have p910 : 0 ≤ (x5_1 : Int) := of_decide_eq_true (by first | (with_reducible assumption) | assumption)
        have q910 : x5_1 < (l1.length : Int) := of_decide_eq_true (by first | (with_reducible assumption) | assumption)
        obtain ⟨ad910, A910_8, c910_8, e910, hx910_0, hx910_1, hx910_2, hx910_3, hx910_4, hx910_5, hx910_6, hx910_7, hx910_8, hl910_8, hi910_8⟩ := at_T27 HR1.out x5_1 p910 q910
        have hw910_8 := hx910_8
        have hw910_7 := hx910_7
        have hw910_6 := hx910_6
        have hw910_5 := hx910_5
        have hw910_4 := hx910_4
        have hw910_3 := hx910_3
        have hw910_2 := hx910_2
        have hw910_1 := hx910_1
        have hw910_0 := hx910_0
        cases e910
        first | replace hx910_0 := (HB.out.cell (World.block_lt_of_cell? w _ hx910_0)).trans hx910_0 | skip
        first | replace hx910_1 := (HB.out.cell (World.block_lt_of_cell? w _ hx910_1)).trans hx910_1 | skip
        first | replace hx910_2 := (HB.out.cell (World.block_lt_of_cell? w _ hx910_2)).trans hx910_2 | skip
        first | replace hx910_3 := (HB.out.cell (World.block_lt_of_cell? w _ hx910_3)).trans hx910_3 | skip
        first | replace hx910_4 := (HB.out.cell (World.block_lt_of_cell? w _ hx910_4)).trans hx910_4 | skip
        first | replace hx910_5 := (HB.out.cell (World.block_lt_of_cell? w _ hx910_5)).trans hx910_5 | skip
        first | replace hx910_6 := (HB.out.cell (World.block_lt_of_cell? w _ hx910_6)).trans hx910_6 | skip
        first | replace hx910_7 := (HB.out.cell (World.block_lt_of_cell? w _ hx910_7)).trans hx910_7 | skip
        first | replace hx910_8 := (HB.out.cell (World.block_lt_of_cell? w _ hx910_8)).trans hx910_8 | skip
        have HR910_8 := Aside0.mk hi910_8
        have HC910_8 := Aside0.mk hl910_8
        clear hi910_8 hl910_8
        replace p910 := eq_true p910
        replace q910 := eq_true q910
        refine start_ (n := 10) (S := fun w' => w'.cell? (ad909.add ((x5_1).toNat * 9)) = some (.string ((rd_T27 l0 x5_1).f0)) ∧ w'.cell? ⟨(ad909.add ((x5_1).toNat * 9)).block, (ad909.add ((x5_1).toNat * 9)).off + 1, none⟩ = some (.bool ((rd_T27 l0 x5_1).f1)) ∧ w'.cell? ⟨(ad909.add ((x5_1).toNat * 9)).block, (ad909.add ((x5_1).toNat * 9)).off + 2, none⟩ = some (.int .i64 ((rd_T27 l0 x5_1).f2)) ∧ w'.cell? ⟨(ad909.add ((x5_1).toNat * 9)).block, (ad909.add ((x5_1).toNat * 9)).off + 3, none⟩ = some (.int .i64 ((rd_T27 l0 x5_1).f3)) ∧ w'.cell? ⟨(ad909.add ((x5_1).toNat * 9)).block, (ad909.add ((x5_1).toNat * 9)).off + 4, none⟩ = some (.int .i64 ((rd_T27 l0 x5_1).f4)) ∧ w'.cell? ⟨(ad909.add ((x5_1).toNat * 9)).block, (ad909.add ((x5_1).toNat * 9)).off + 5, none⟩ = some (.int .i64 ((rd_T27 l0 x5_1).f5.f0)) ∧ w'.cell? ⟨(ad909.add ((x5_1).toNat * 9)).block, (ad909.add ((x5_1).toNat * 9)).off + 6, none⟩ = some (.int .i64 ((rd_T27 l0 x5_1).f5.f1)) ∧ w'.cell? ⟨(ad909.add ((x5_1).toNat * 9)).block, (ad909.add ((x5_1).toNat * 9)).off + 7, none⟩ = some (.string ((rd_T27 l0 x5_1).f5.f2)) ∧ w'.cell? ⟨(ad909.add ((x5_1).toNat * 9)).block, (ad909.add ((x5_1).toNat * 9)).off + 8, none⟩ = some (.slice A909_8 ((rd_T27 l0 x5_1).f5.f3).length c909_8) ∧ w'.cell? (ad910.add ((x5_1).toNat * 9)) = some (.string ((rd_T27 l1 x5_1).f0)) ∧ w'.cell? ⟨(ad910.add ((x5_1).toNat * 9)).block, (ad910.add ((x5_1).toNat * 9)).off + 1, none⟩ = some (.bool ((rd_T27 l1 x5_1).f1)) ∧ w'.cell? ⟨(ad910.add ((x5_1).toNat * 9)).block, (ad910.add ((x5_1).toNat * 9)).off + 2, none⟩ = some (.int .i64 ((rd_T27 l1 x5_1).f2)) ∧ w'.cell? ⟨(ad910.add ((x5_1).toNat * 9)).block, (ad910.add ((x5_1).toNat * 9)).off + 3, none⟩ = some (.int .i64 ((rd_T27 l1 x5_1).f3)) ∧ w'.cell? ⟨(ad910.add ((x5_1).toNat * 9)).block, (ad910.add ((x5_1).toNat * 9)).off + 4, none⟩ = some (.int .i64 ((rd_T27 l1 x5_1).f4)) ∧ w'.cell? ⟨(ad910.add ((x5_1).toNat * 9)).block, (ad910.add ((x5_1).toNat * 9)).off + 5, none⟩ = some (.int .i64 ((rd_T27 l1 x5_1).f5.f0)) ∧ w'.cell? ⟨(ad910.add ((x5_1).toNat * 9)).block, (ad910.add ((x5_1).toNat * 9)).off + 6, none⟩ = some (.int .i64 ((rd_T27 l1 x5_1).f5.f1)) ∧ w'.cell? ⟨(ad910.add ((x5_1).toNat * 9)).block, (ad910.add ((x5_1).toNat * 9)).off + 7, none⟩ = some (.string ((rd_T27 l1 x5_1).f5.f2)) ∧ w'.cell? ⟨(ad910.add ((x5_1).toNat * 9)).block, (ad910.add ((x5_1).toNat * 9)).off + 8, none⟩ = some (.slice A910_8 ((rd_T27 l1 x5_1).f5.f3).length c910_8)) (ds := []) laws_eqPolicyS.m0 (by kernel_rfl) rfl rfl ⟨((HB.out.cell (World.block_lt_of_cell? w _ hw909_0)).trans hw909_0), ((HB.out.cell (World.block_lt_of_cell? w _ hw909_1)).trans hw909_1), ((HB.out.cell (World.block_lt_of_cell? w _ hw909_2)).trans hw909_2), ((HB.out.cell (World.block_lt_of_cell? w _ hw909_3)).trans hw909_3), ((HB.out.cell (World.block_lt_of_cell? w _ hw909_4)).trans hw909_4), ((HB.out.cell (World.block_lt_of_cell? w _ hw909_5)).trans hw909_5), ((HB.out.cell (World.block_lt_of_cell? w _ hw909_6)).trans hw909_6), ((HB.out.cell (World.block_lt_of_cell? w _ hw909_7)).trans hw909_7), ((HB.out.cell (World.block_lt_of_cell? w _ hw909_8)).trans hw909_8), ((HB.out.cell (World.block_lt_of_cell? w _ hw910_0)).trans hw910_0), ((HB.out.cell (World.block_lt_of_cell? w _ hw910_1)).trans hw910_1), ((HB.out.cell (World.block_lt_of_cell? w _ hw910_2)).trans hw910_2), ((HB.out.cell (World.block_lt_of_cell? w _ hw910_3)).trans hw910_3), ((HB.out.cell (World.block_lt_of_cell? w _ hw910_4)).trans hw910_4), ((HB.out.cell (World.block_lt_of_cell? w _ hw910_5)).trans hw910_5), ((HB.out.cell (World.block_lt_of_cell? w _ hw910_6)).trans hw910_6), ((HB.out.cell (World.block_lt_of_cell? w _ hw910_7)).trans hw910_7), ((HB.out.cell (World.block_lt_of_cell? w _ hw910_8)).trans hw910_8)⟩ (fun hHeld => ?_); refine with_tabW laws_eqPolicyS.tab6 laws_eqPolicyS.bits6 (fun HT_ HW_ => ?_)
        generalize wr.drew = w9 at HB HR909_8 HR910_8 hx909_0 hx909_1 hx909_2 hx909_3 hx909_4 hx909_5 hx909_6 hx909_7 hx909_8 hx910_0 hx910_1 hx910_2 hx910_3 hx910_4 hx910_5 hx910_6 hx910_7 hx910_8 hHeld ⊢
        refine pure_ (i := 0) (N := some 17) (v := ?_) (a' := ?_) laws_eqPolicyS.m1 rfl rfl (any_of HT_.out (by kernel_rfl)) (fun _ _ _ h => h) (Or.inl ⟨by rfl, ?_⟩) ?_ ?_
        rotate_left
        ·
         intro w'
         go_simp
         with_reducible rfl
        rotate_left
        ·
         simp only [Act.put, List.setIfInBounds_toArray, List.set_cons_zero, List.set_cons_succ, i64_w, i32_w]
         rfl
        refine pure_ (i := 1) (N := some 18) (v := ?_) (a' := ?_) laws_eqPolicyS.m2 rfl rfl (any_of HT_.out (by kernel_rfl)) (fun _ _ _ h => h) (Or.inl ⟨by rfl, ?_⟩) ?_ ?_
        rotate_left
        ·
         intro w'
         go_simp
         with_reducible rfl
        rotate_left
        ·
         simp only [Act.put, List.setIfInBounds_toArray, List.set_cons_zero, List.set_cons_succ, i64_w, i32_w]
         rfl
        refine pure_ (i := 2) (N := some 19) (v := ?_) (a' := ?_) laws_eqPolicyS.m3 rfl rfl (any_of HT_.out (by kernel_rfl)) (fun _ _ _ h => h) (Or.inl ⟨by rfl, ?_⟩) ?_ ?_
        rotate_left
        ·
         intro w'
         go_simp
         with_reducible rfl
        rotate_left
        ·
         simp only [Act.put, List.setIfInBounds_toArray, List.set_cons_zero, List.set_cons_succ, i64_w, i32_w]
         rfl
        refine pure_ (i := 4) (N := some 21) (v := ?_) (a' := ?_) laws_eqPolicyS.m4 rfl rfl (any_of HT_.out (by kernel_rfl)) (fun _ _ _ h => h) (Or.inl ⟨by rfl, ?_⟩) ?_ ?_
        rotate_left
        ·
         intro w'
         go_simp
         with_reducible rfl
        rotate_left
        ·
         simp only [Act.put, List.setIfInBounds_toArray, List.set_cons_zero, List.set_cons_succ, i64_w, i32_w]
         rfl
        refine pure_ (i := 5) (N := some 22) (v := ?_) (a' := ?_) laws_eqPolicyS.m5 rfl rfl (any_of HT_.out (by kernel_rfl)) (fun _ _ _ h => h) (Or.inl ⟨by rfl, ?_⟩) ?_ ?_
        rotate_left
        ·
         intro w'
         go_simp
         with_reducible rfl
        rotate_left
        ·
         simp only [Act.put, List.setIfInBounds_toArray, List.set_cons_zero, List.set_cons_succ, i64_w, i32_w]
         rfl
        refine pure_ (i := 6) (N := some 23) (v := ?_) (a' := ?_) laws_eqPolicyS.m6 rfl rfl (any_of HT_.out (by kernel_rfl)) (fun _ _ _ h => h) (Or.inl ⟨by rfl, ?_⟩) ?_ ?_
        rotate_left
        ·
         intro w'
         go_simp
         with_reducible rfl
        rotate_left
        ·
         simp only [Act.put, List.setIfInBounds_toArray, List.set_cons_zero, List.set_cons_succ, i64_w, i32_w]
         rfl
        refine take_ (i := 3) (N := some 20) (v := ?_) (a' := ?_) laws_eqPolicyS.m7 rfl rfl (take_ofW HT_.out HW_.out (by kernel_rfl)) (fun _ _ _ h => h) (Or.inl ⟨by rfl, ?_⟩) hHeld ?_ ?_
        rotate_left
        ·
         rintro w' ⟨s0, s1, s2, s3, s4, s5, s6, s7, s8, s9, s10, s11, s12, s13, s14, s15, s16, s17⟩
         go_simp
         with_reducible rfl
        rotate_left
        ·
         simp only [Act.put, List.setIfInBounds_toArray, List.set_cons_zero, List.set_cons_succ, i64_w, i32_w]
         rfl
        refine take_ (i := 7) (N := some 24) (v := ?_) (a' := ?_) laws_eqPolicyS.m8 rfl rfl (take_ofW HT_.out HW_.out (by kernel_rfl)) (fun _ _ _ h => h) (Or.inl ⟨by rfl, ?_⟩) hHeld ?_ ?_
        rotate_left
        ·
         rintro w' ⟨s0, s1, s2, s3, s4, s5, s6, s7, s8, s9, s10, s11, s12, s13, s14, s15, s16, s17⟩
         go_simp
         with_reducible rfl
        rotate_left
        ·
         simp only [Act.put, List.setIfInBounds_toArray, List.set_cons_zero, List.set_cons_succ, i64_w, i32_w]
         rfl
        refine one_ (i := 8) (N := some 25) laws_eqPolicyS.m9 rfl rfl (one_of HT_.out (by kernel_rfl)) (by decide) (fun K hK => ?_)
        refine goes_ Try.func74 (by kernel_rfl) rfl #[.agg #[.string ((rd_T27 l0 x5_1).f0), .bool ((rd_T27 l0 x5_1).f1), .int .i64 ((rd_T27 l0 x5_1).f2), .int .i64 ((rd_T27 l0 x5_1).f3), .int .i64 ((rd_T27 l0 x5_1).f4), .int .i64 ((rd_T27 l0 x5_1).f5.f0), .int .i64 ((rd_T27 l0 x5_1).f5.f1), .string ((rd_T27 l0 x5_1).f5.f2), .slice A909_8 ((rd_T27 l0 x5_1).f5.f3).length c909_8], .agg #[.string ((rd_T27 l1 x5_1).f0), .bool ((rd_T27 l1 x5_1).f1), .int .i64 ((rd_T27 l1 x5_1).f2), .int .i64 ((rd_T27 l1 x5_1).f3), .int .i64 ((rd_T27 l1 x5_1).f4), .int .i64 ((rd_T27 l1 x5_1).f5.f0), .int .i64 ((rd_T27 l1 x5_1).f5.f1), .string ((rd_T27 l1 x5_1).f5.f2), .slice A910_8 ((rd_T27 l1 x5_1).f5.f3).length c910_8]] (by rfl) rfl rfl (by (try simp only [List.map_toArray, List.map_cons, List.map_nil]); first | done | rfl | (simp only [List.length_drop, List.length_take]; rfl)) ?_
        with_reducible refine (laws_eqPolicy.calls k1 ((rd_T27 l0 x5_1).f0) ((rd_T27 l0 x5_1).f1) ((rd_T27 l0 x5_1).f2) ((rd_T27 l0 x5_1).f3) ((rd_T27 l0 x5_1).f4) ((rd_T27 l0 x5_1).f5.f0) ((rd_T27 l0 x5_1).f5.f1) ((rd_T27 l0 x5_1).f5.f2) _ _ ((rd_T27 l0 x5_1).f5.f3) ((rd_T27 l1 x5_1).f0) ((rd_T27 l1 x5_1).f1) ((rd_T27 l1 x5_1).f2) ((rd_T27 l1 x5_1).f3) ((rd_T27 l1 x5_1).f4) ((rd_T27 l1 x5_1).f5.f0) ((rd_T27 l1 x5_1).f5.f1) ((rd_T27 l1 x5_1).f5.f2) _ _ ((rd_T27 l1 x5_1).f5.f3) true _ ?side1 ?side2 ?side3 ?side4 A7.out).mono ?_
        (case side1 => repeat (first | exact (Kd.C_below HR909_8.out HB.out) | (with_reducible refine Kd.C_alloc ?_ _) | (with_reducible refine Kd.C_drewN ?_ _) | (with_reducible refine Kd.C_drew ?_)))
        (case side2 => exact HC909_8.out)
        (case side3 => repeat (first | exact (Kd.C_below HR910_8.out HB.out) | (with_reducible refine Kd.C_alloc ?_ _) | (with_reducible refine Kd.C_drewN ?_ _) | (with_reducible refine Kd.C_drew ?_)))
        (case side4 => exact HC910_8.out)
        rintro e w10 ⟨rfl, hb⟩
        refine ⟨_, rfl, ?_⟩
        have n0_ := Aside0.mk (below_step (by exact bw HB.out) hb)
        clear HB
        have HB := n0_
        clear n0_
        (try clear hb)
        (try clear hb2)
        (try clear hk)
        (try clear hi)
        refine hK.out _ _ ⟨((HB.out.cell (World.block_lt_of_cell? w _ hw909_0)).trans hw909_0), ((HB.out.cell (World.block_lt_of_cell? w _ hw909_1)).trans hw909_1), ((HB.out.cell (World.block_lt_of_cell? w _ hw909_2)).trans hw909_2), ((HB.out.cell (World.block_lt_of_cell? w _ hw909_3)).trans hw909_3), ((HB.out.cell (World.block_lt_of_cell? w _ hw909_4)).trans hw909_4), ((HB.out.cell (World.block_lt_of_cell? w _ hw909_5)).trans hw909_5), ((HB.out.cell (World.block_lt_of_cell? w _ hw909_6)).trans hw909_6), ((HB.out.cell (World.block_lt_of_cell? w _ hw909_7)).trans hw909_7), ((HB.out.cell (World.block_lt_of_cell? w _ hw909_8)).trans hw909_8), ((HB.out.cell (World.block_lt_of_cell? w _ hw910_0)).trans hw910_0), ((HB.out.cell (World.block_lt_of_cell? w _ hw910_1)).trans hw910_1), ((HB.out.cell (World.block_lt_of_cell? w _ hw910_2)).trans hw910_2), ((HB.out.cell (World.block_lt_of_cell? w _ hw910_3)).trans hw910_3), ((HB.out.cell (World.block_lt_of_cell? w _ hw910_4)).trans hw910_4), ((HB.out.cell (World.block_lt_of_cell? w _ hw910_5)).trans hw910_5), ((HB.out.cell (World.block_lt_of_cell? w _ hw910_6)).trans hw910_6), ((HB.out.cell (World.block_lt_of_cell? w _ hw910_7)).trans hw910_7), ((HB.out.cell (World.block_lt_of_cell? w _ hw910_8)).trans hw910_8)⟩ (fun hHeld => ?_)
        clear hK K
        refine norm_ (a' := ?_) ?_ ?_
        rotate_left
        ·
         show Act.put _ (some 25) _ = _
         simp only [Act.put, List.setIfInBounds_toArray, List.set_cons_zero, List.set_cons_succ, i64_w, i32_w]
         rfl
        refine pure_ (i := 9) (N := some 26) (v := ?_) (a' := ?_) laws_eqPolicyS.m10 rfl rfl (any_of HT_.out (by kernel_rfl)) (fun _ _ _ h => h) (Or.inl ⟨by rfl, ?_⟩) ?_ ?_
        rotate_left
        ·
         intro w'
         go_simp
         with_reducible rfl
        rotate_left
        ·
         simp only [Act.put, List.setIfInBounds_toArray, List.set_cons_zero, List.set_cons_succ, i64_w, i32_w]
         rfl
        refine done_ (done_of HT_.out (by kernel_rfl)) ?_
        try go_wp2
        go_roundg k1
        case measure => have := HK1.out; omega
        case rel => exact ⟨(wrap64 (x5_1 + 1)), (by first | rfl | (simp; done) | (simp [*]; done)), H', ⟨by have := HK1.out; omega⟩, ⟨by exact bw HB.out⟩⟩
       ·
        replace c8 := Bool.eq_false_iff.mpr c8
        subst c8
        have H1 : (some false) = some r := by rw [if_neg (show ¬ (false = true) by decide)] at H; exact H
        clear H
        have H := H1
        clear H1
        obtain rfl := Option.some.inj H
        try go_wp2
        have n0_ := Aside0.mk (below_drew1 HB.out)
        clear HB
        have HB := n0_
        clear n0_
        have p909 : 0 ≤ (x5_1 : Int) := of_decide_eq_true (by first | (with_reducible assumption) | assumption)
        have q909 : x5_1 < (l0.length : Int) := of_decide_eq_true (by first | (with_reducible assumption) | assumption)
        obtain ⟨ad909, A909_8, c909_8, e909, hx909_0, hx909_1, hx909_2, hx909_3, hx909_4, hx909_5, hx909_6, hx909_7, hx909_8, hl909_8, hi909_8⟩ := at_T27 HR0.out x5_1 p909 q909
        have hw909_8 := hx909_8
        have hw909_7 := hx909_7
        have hw909_6 := hx909_6
        have hw909_5 := hx909_5
        have hw909_4 := hx909_4
        have hw909_3 := hx909_3
        have hw909_2 := hx909_2
        have hw909_1 := hx909_1
        have hw909_0 := hx909_0
        cases e909
        first | replace hx909_0 := (HB.out.cell (World.block_lt_of_cell? w _ hx909_0)).trans hx909_0 | skip
        first | replace hx909_1 := (HB.out.cell (World.block_lt_of_cell? w _ hx909_1)).trans hx909_1 | skip
        first | replace hx909_2 := (HB.out.cell (World.block_lt_of_cell? w _ hx909_2)).trans hx909_2 | skip
        first | replace hx909_3 := (HB.out.cell (World.block_lt_of_cell? w _ hx909_3)).trans hx909_3 | skip
        first | replace hx909_4 := (HB.out.cell (World.block_lt_of_cell? w _ hx909_4)).trans hx909_4 | skip
        first | replace hx909_5 := (HB.out.cell (World.block_lt_of_cell? w _ hx909_5)).trans hx909_5 | skip
        first | replace hx909_6 := (HB.out.cell (World.block_lt_of_cell? w _ hx909_6)).trans hx909_6 | skip
        first | replace hx909_7 := (HB.out.cell (World.block_lt_of_cell? w _ hx909_7)).trans hx909_7 | skip
        first | replace hx909_8 := (HB.out.cell (World.block_lt_of_cell? w _ hx909_8)).trans hx909_8 | skip
        have HR909_8 := Aside0.mk hi909_8
        have HC909_8 := Aside0.mk hl909_8
        clear hi909_8 hl909_8
        replace p909 := eq_true p909
        replace q909 := eq_true q909
        have p910 : 0 ≤ (x5_1 : Int) := of_decide_eq_true (by first | (with_reducible assumption) | assumption)
        have q910 : x5_1 < (l1.length : Int) := of_decide_eq_true (by first | (with_reducible assumption) | assumption)
        obtain ⟨ad910, A910_8, c910_8, e910, hx910_0, hx910_1, hx910_2, hx910_3, hx910_4, hx910_5, hx910_6, hx910_7, hx910_8, hl910_8, hi910_8⟩ := at_T27 HR1.out x5_1 p910 q910
        have hw910_8 := hx910_8
        have hw910_7 := hx910_7
        have hw910_6 := hx910_6
        have hw910_5 := hx910_5
        have hw910_4 := hx910_4
        have hw910_3 := hx910_3
        have hw910_2 := hx910_2
        have hw910_1 := hx910_1
        have hw910_0 := hx910_0
        cases e910
        first | replace hx910_0 := (HB.out.cell (World.block_lt_of_cell? w _ hx910_0)).trans hx910_0 | skip
        first | replace hx910_1 := (HB.out.cell (World.block_lt_of_cell? w _ hx910_1)).trans hx910_1 | skip
        first | replace hx910_2 := (HB.out.cell (World.block_lt_of_cell? w _ hx910_2)).trans hx910_2 | skip
        first | replace hx910_3 := (HB.out.cell (World.block_lt_of_cell? w _ hx910_3)).trans hx910_3 | skip
        first | replace hx910_4 := (HB.out.cell (World.block_lt_of_cell? w _ hx910_4)).trans hx910_4 | skip
        first | replace hx910_5 := (HB.out.cell (World.block_lt_of_cell? w _ hx910_5)).trans hx910_5 | skip
        first | replace hx910_6 := (HB.out.cell (World.block_lt_of_cell? w _ hx910_6)).trans hx910_6 | skip
        first | replace hx910_7 := (HB.out.cell (World.block_lt_of_cell? w _ hx910_7)).trans hx910_7 | skip
        first | replace hx910_8 := (HB.out.cell (World.block_lt_of_cell? w _ hx910_8)).trans hx910_8 | skip
        have HR910_8 := Aside0.mk hi910_8
        have HC910_8 := Aside0.mk hl910_8
        clear hi910_8 hl910_8
        replace p910 := eq_true p910
        replace q910 := eq_true q910
        refine start_ (n := 10) (S := fun w' => w'.cell? (ad909.add ((x5_1).toNat * 9)) = some (.string ((rd_T27 l0 x5_1).f0)) ∧ w'.cell? ⟨(ad909.add ((x5_1).toNat * 9)).block, (ad909.add ((x5_1).toNat * 9)).off + 1, none⟩ = some (.bool ((rd_T27 l0 x5_1).f1)) ∧ w'.cell? ⟨(ad909.add ((x5_1).toNat * 9)).block, (ad909.add ((x5_1).toNat * 9)).off + 2, none⟩ = some (.int .i64 ((rd_T27 l0 x5_1).f2)) ∧ w'.cell? ⟨(ad909.add ((x5_1).toNat * 9)).block, (ad909.add ((x5_1).toNat * 9)).off + 3, none⟩ = some (.int .i64 ((rd_T27 l0 x5_1).f3)) ∧ w'.cell? ⟨(ad909.add ((x5_1).toNat * 9)).block, (ad909.add ((x5_1).toNat * 9)).off + 4, none⟩ = some (.int .i64 ((rd_T27 l0 x5_1).f4)) ∧ w'.cell? ⟨(ad909.add ((x5_1).toNat * 9)).block, (ad909.add ((x5_1).toNat * 9)).off + 5, none⟩ = some (.int .i64 ((rd_T27 l0 x5_1).f5.f0)) ∧ w'.cell? ⟨(ad909.add ((x5_1).toNat * 9)).block, (ad909.add ((x5_1).toNat * 9)).off + 6, none⟩ = some (.int .i64 ((rd_T27 l0 x5_1).f5.f1)) ∧ w'.cell? ⟨(ad909.add ((x5_1).toNat * 9)).block, (ad909.add ((x5_1).toNat * 9)).off + 7, none⟩ = some (.string ((rd_T27 l0 x5_1).f5.f2)) ∧ w'.cell? ⟨(ad909.add ((x5_1).toNat * 9)).block, (ad909.add ((x5_1).toNat * 9)).off + 8, none⟩ = some (.slice A909_8 ((rd_T27 l0 x5_1).f5.f3).length c909_8) ∧ w'.cell? (ad910.add ((x5_1).toNat * 9)) = some (.string ((rd_T27 l1 x5_1).f0)) ∧ w'.cell? ⟨(ad910.add ((x5_1).toNat * 9)).block, (ad910.add ((x5_1).toNat * 9)).off + 1, none⟩ = some (.bool ((rd_T27 l1 x5_1).f1)) ∧ w'.cell? ⟨(ad910.add ((x5_1).toNat * 9)).block, (ad910.add ((x5_1).toNat * 9)).off + 2, none⟩ = some (.int .i64 ((rd_T27 l1 x5_1).f2)) ∧ w'.cell? ⟨(ad910.add ((x5_1).toNat * 9)).block, (ad910.add ((x5_1).toNat * 9)).off + 3, none⟩ = some (.int .i64 ((rd_T27 l1 x5_1).f3)) ∧ w'.cell? ⟨(ad910.add ((x5_1).toNat * 9)).block, (ad910.add ((x5_1).toNat * 9)).off + 4, none⟩ = some (.int .i64 ((rd_T27 l1 x5_1).f4)) ∧ w'.cell? ⟨(ad910.add ((x5_1).toNat * 9)).block, (ad910.add ((x5_1).toNat * 9)).off + 5, none⟩ = some (.int .i64 ((rd_T27 l1 x5_1).f5.f0)) ∧ w'.cell? ⟨(ad910.add ((x5_1).toNat * 9)).block, (ad910.add ((x5_1).toNat * 9)).off + 6, none⟩ = some (.int .i64 ((rd_T27 l1 x5_1).f5.f1)) ∧ w'.cell? ⟨(ad910.add ((x5_1).toNat * 9)).block, (ad910.add ((x5_1).toNat * 9)).off + 7, none⟩ = some (.string ((rd_T27 l1 x5_1).f5.f2)) ∧ w'.cell? ⟨(ad910.add ((x5_1).toNat * 9)).block, (ad910.add ((x5_1).toNat * 9)).off + 8, none⟩ = some (.slice A910_8 ((rd_T27 l1 x5_1).f5.f3).length c910_8)) (ds := []) laws_eqPolicyS.m0 (by kernel_rfl) rfl rfl ⟨((HB.out.cell (World.block_lt_of_cell? w _ hw909_0)).trans hw909_0), ((HB.out.cell (World.block_lt_of_cell? w _ hw909_1)).trans hw909_1), ((HB.out.cell (World.block_lt_of_cell? w _ hw909_2)).trans hw909_2), ((HB.out.cell (World.block_lt_of_cell? w _ hw909_3)).trans hw909_3), ((HB.out.cell (World.block_lt_of_cell? w _ hw909_4)).trans hw909_4), ((HB.out.cell (World.block_lt_of_cell? w _ hw909_5)).trans hw909_5), ((HB.out.cell (World.block_lt_of_cell? w _ hw909_6)).trans hw909_6), ((HB.out.cell (World.block_lt_of_cell? w _ hw909_7)).trans hw909_7), ((HB.out.cell (World.block_lt_of_cell? w _ hw909_8)).trans hw909_8), ((HB.out.cell (World.block_lt_of_cell? w _ hw910_0)).trans hw910_0), ((HB.out.cell (World.block_lt_of_cell? w _ hw910_1)).trans hw910_1), ((HB.out.cell (World.block_lt_of_cell? w _ hw910_2)).trans hw910_2), ((HB.out.cell (World.block_lt_of_cell? w _ hw910_3)).trans hw910_3), ((HB.out.cell (World.block_lt_of_cell? w _ hw910_4)).trans hw910_4), ((HB.out.cell (World.block_lt_of_cell? w _ hw910_5)).trans hw910_5), ((HB.out.cell (World.block_lt_of_cell? w _ hw910_6)).trans hw910_6), ((HB.out.cell (World.block_lt_of_cell? w _ hw910_7)).trans hw910_7), ((HB.out.cell (World.block_lt_of_cell? w _ hw910_8)).trans hw910_8)⟩ (fun hHeld => ?_); refine with_tabW laws_eqPolicyS.tab6 laws_eqPolicyS.bits6 (fun HT_ HW_ => ?_)
        generalize wr.drew = w11 at HB HR909_8 HR910_8 hx909_0 hx909_1 hx909_2 hx909_3 hx909_4 hx909_5 hx909_6 hx909_7 hx909_8 hx910_0 hx910_1 hx910_2 hx910_3 hx910_4 hx910_5 hx910_6 hx910_7 hx910_8 hHeld ⊢
        refine pure_ (i := 0) (N := some 17) (v := ?_) (a' := ?_) laws_eqPolicyS.m1 rfl rfl (any_of HT_.out (by kernel_rfl)) (fun _ _ _ h => h) (Or.inl ⟨by rfl, ?_⟩) ?_ ?_
        rotate_left
        ·
         intro w'
         go_simp
         with_reducible rfl
        rotate_left
        ·
         simp only [Act.put, List.setIfInBounds_toArray, List.set_cons_zero, List.set_cons_succ, i64_w, i32_w]
         rfl
        refine pure_ (i := 1) (N := some 18) (v := ?_) (a' := ?_) laws_eqPolicyS.m2 rfl rfl (any_of HT_.out (by kernel_rfl)) (fun _ _ _ h => h) (Or.inl ⟨by rfl, ?_⟩) ?_ ?_
        rotate_left
        ·
         intro w'
         go_simp
         with_reducible rfl
        rotate_left
        ·
         simp only [Act.put, List.setIfInBounds_toArray, List.set_cons_zero, List.set_cons_succ, i64_w, i32_w]
         rfl
        refine pure_ (i := 2) (N := some 19) (v := ?_) (a' := ?_) laws_eqPolicyS.m3 rfl rfl (any_of HT_.out (by kernel_rfl)) (fun _ _ _ h => h) (Or.inl ⟨by rfl, ?_⟩) ?_ ?_
        rotate_left
        ·
         intro w'
         go_simp
         with_reducible rfl
        rotate_left
        ·
         simp only [Act.put, List.setIfInBounds_toArray, List.set_cons_zero, List.set_cons_succ, i64_w, i32_w]
         rfl
        refine pure_ (i := 4) (N := some 21) (v := ?_) (a' := ?_) laws_eqPolicyS.m4 rfl rfl (any_of HT_.out (by kernel_rfl)) (fun _ _ _ h => h) (Or.inl ⟨by rfl, ?_⟩) ?_ ?_
        rotate_left
        ·
         intro w'
         go_simp
         with_reducible rfl
        rotate_left
        ·
         simp only [Act.put, List.setIfInBounds_toArray, List.set_cons_zero, List.set_cons_succ, i64_w, i32_w]
         rfl
        refine pure_ (i := 5) (N := some 22) (v := ?_) (a' := ?_) laws_eqPolicyS.m5 rfl rfl (any_of HT_.out (by kernel_rfl)) (fun _ _ _ h => h) (Or.inl ⟨by rfl, ?_⟩) ?_ ?_
        rotate_left
        ·
         intro w'
         go_simp
         with_reducible rfl
        rotate_left
        ·
         simp only [Act.put, List.setIfInBounds_toArray, List.set_cons_zero, List.set_cons_succ, i64_w, i32_w]
         rfl
        refine pure_ (i := 6) (N := some 23) (v := ?_) (a' := ?_) laws_eqPolicyS.m6 rfl rfl (any_of HT_.out (by kernel_rfl)) (fun _ _ _ h => h) (Or.inl ⟨by rfl, ?_⟩) ?_ ?_
        rotate_left
        ·
         intro w'
         go_simp
         with_reducible rfl
        rotate_left
        ·
         simp only [Act.put, List.setIfInBounds_toArray, List.set_cons_zero, List.set_cons_succ, i64_w, i32_w]
         rfl
        refine take_ (i := 3) (N := some 20) (v := ?_) (a' := ?_) laws_eqPolicyS.m7 rfl rfl (take_ofW HT_.out HW_.out (by kernel_rfl)) (fun _ _ _ h => h) (Or.inl ⟨by rfl, ?_⟩) hHeld ?_ ?_
        rotate_left
        ·
         rintro w' ⟨s0, s1, s2, s3, s4, s5, s6, s7, s8, s9, s10, s11, s12, s13, s14, s15, s16, s17⟩
         go_simp
         with_reducible rfl
        rotate_left
        ·
         simp only [Act.put, List.setIfInBounds_toArray, List.set_cons_zero, List.set_cons_succ, i64_w, i32_w]
         rfl
        refine take_ (i := 7) (N := some 24) (v := ?_) (a' := ?_) laws_eqPolicyS.m8 rfl rfl (take_ofW HT_.out HW_.out (by kernel_rfl)) (fun _ _ _ h => h) (Or.inl ⟨by rfl, ?_⟩) hHeld ?_ ?_
        rotate_left
        ·
         rintro w' ⟨s0, s1, s2, s3, s4, s5, s6, s7, s8, s9, s10, s11, s12, s13, s14, s15, s16, s17⟩
         go_simp
         with_reducible rfl
        rotate_left
        ·
         simp only [Act.put, List.setIfInBounds_toArray, List.set_cons_zero, List.set_cons_succ, i64_w, i32_w]
         rfl
        refine one_ (i := 8) (N := some 25) laws_eqPolicyS.m9 rfl rfl (one_of HT_.out (by kernel_rfl)) (by decide) (fun K hK => ?_)
        refine goes_ Try.func74 (by kernel_rfl) rfl #[.agg #[.string ((rd_T27 l0 x5_1).f0), .bool ((rd_T27 l0 x5_1).f1), .int .i64 ((rd_T27 l0 x5_1).f2), .int .i64 ((rd_T27 l0 x5_1).f3), .int .i64 ((rd_T27 l0 x5_1).f4), .int .i64 ((rd_T27 l0 x5_1).f5.f0), .int .i64 ((rd_T27 l0 x5_1).f5.f1), .string ((rd_T27 l0 x5_1).f5.f2), .slice A909_8 ((rd_T27 l0 x5_1).f5.f3).length c909_8], .agg #[.string ((rd_T27 l1 x5_1).f0), .bool ((rd_T27 l1 x5_1).f1), .int .i64 ((rd_T27 l1 x5_1).f2), .int .i64 ((rd_T27 l1 x5_1).f3), .int .i64 ((rd_T27 l1 x5_1).f4), .int .i64 ((rd_T27 l1 x5_1).f5.f0), .int .i64 ((rd_T27 l1 x5_1).f5.f1), .string ((rd_T27 l1 x5_1).f5.f2), .slice A910_8 ((rd_T27 l1 x5_1).f5.f3).length c910_8]] (by rfl) rfl rfl (by (try simp only [List.map_toArray, List.map_cons, List.map_nil]); first | done | rfl | (simp only [List.length_drop, List.length_take]; rfl)) ?_
        with_reducible refine (laws_eqPolicy.calls k1 ((rd_T27 l0 x5_1).f0) ((rd_T27 l0 x5_1).f1) ((rd_T27 l0 x5_1).f2) ((rd_T27 l0 x5_1).f3) ((rd_T27 l0 x5_1).f4) ((rd_T27 l0 x5_1).f5.f0) ((rd_T27 l0 x5_1).f5.f1) ((rd_T27 l0 x5_1).f5.f2) _ _ ((rd_T27 l0 x5_1).f5.f3) ((rd_T27 l1 x5_1).f0) ((rd_T27 l1 x5_1).f1) ((rd_T27 l1 x5_1).f2) ((rd_T27 l1 x5_1).f3) ((rd_T27 l1 x5_1).f4) ((rd_T27 l1 x5_1).f5.f0) ((rd_T27 l1 x5_1).f5.f1) ((rd_T27 l1 x5_1).f5.f2) _ _ ((rd_T27 l1 x5_1).f5.f3) false _ ?side1 ?side2 ?side3 ?side4 A7.out).mono ?_
        (case side1 => repeat (first | exact (Kd.C_below HR909_8.out HB.out) | (with_reducible refine Kd.C_alloc ?_ _) | (with_reducible refine Kd.C_drewN ?_ _) | (with_reducible refine Kd.C_drew ?_)))
        (case side2 => exact HC909_8.out)
        (case side3 => repeat (first | exact (Kd.C_below HR910_8.out HB.out) | (with_reducible refine Kd.C_alloc ?_ _) | (with_reducible refine Kd.C_drewN ?_ _) | (with_reducible refine Kd.C_drew ?_)))
        (case side4 => exact HC910_8.out)
        rintro e w12 ⟨rfl, hb⟩
        refine ⟨_, rfl, ?_⟩
        have n0_ := Aside0.mk (below_step (by exact bw HB.out) hb)
        clear HB
        have HB := n0_
        clear n0_
        (try clear hb)
        (try clear hb2)
        (try clear hk)
        (try clear hi)
        refine hK.out _ _ ⟨((HB.out.cell (World.block_lt_of_cell? w _ hw909_0)).trans hw909_0), ((HB.out.cell (World.block_lt_of_cell? w _ hw909_1)).trans hw909_1), ((HB.out.cell (World.block_lt_of_cell? w _ hw909_2)).trans hw909_2), ((HB.out.cell (World.block_lt_of_cell? w _ hw909_3)).trans hw909_3), ((HB.out.cell (World.block_lt_of_cell? w _ hw909_4)).trans hw909_4), ((HB.out.cell (World.block_lt_of_cell? w _ hw909_5)).trans hw909_5), ((HB.out.cell (World.block_lt_of_cell? w _ hw909_6)).trans hw909_6), ((HB.out.cell (World.block_lt_of_cell? w _ hw909_7)).trans hw909_7), ((HB.out.cell (World.block_lt_of_cell? w _ hw909_8)).trans hw909_8), ((HB.out.cell (World.block_lt_of_cell? w _ hw910_0)).trans hw910_0), ((HB.out.cell (World.block_lt_of_cell? w _ hw910_1)).trans hw910_1), ((HB.out.cell (World.block_lt_of_cell? w _ hw910_2)).trans hw910_2), ((HB.out.cell (World.block_lt_of_cell? w _ hw910_3)).trans hw910_3), ((HB.out.cell (World.block_lt_of_cell? w _ hw910_4)).trans hw910_4), ((HB.out.cell (World.block_lt_of_cell? w _ hw910_5)).trans hw910_5), ((HB.out.cell (World.block_lt_of_cell? w _ hw910_6)).trans hw910_6), ((HB.out.cell (World.block_lt_of_cell? w _ hw910_7)).trans hw910_7), ((HB.out.cell (World.block_lt_of_cell? w _ hw910_8)).trans hw910_8)⟩ (fun hHeld => ?_)
        clear hK K
        refine norm_ (a' := ?_) ?_ ?_
        rotate_left
        ·
         show Act.put _ (some 25) _ = _
         simp only [Act.put, List.setIfInBounds_toArray, List.set_cons_zero, List.set_cons_succ, i64_w, i32_w]
         rfl
        refine pure_ (i := 9) (N := some 26) (v := ?_) (a' := ?_) laws_eqPolicyS.m10 rfl rfl (any_of HT_.out (by kernel_rfl)) (fun _ _ _ h => h) (Or.inl ⟨by rfl, ?_⟩) ?_ ?_
        rotate_left
        ·
         intro w'
         go_simp
         with_reducible rfl
        rotate_left
        ·
         simp only [Act.put, List.setIfInBounds_toArray, List.set_cons_zero, List.set_cons_succ, i64_w, i32_w]
         rfl
        refine done_ (done_of HT_.out (by kernel_rfl)) ?_
        try go_wp2
        go_ret
        exact ⟨by first | rfl | (simp [errW_none, errW_some] <;> rfl) | (simp [*, errW_none, errW_some] <;> rfl), by exact bw HB.out⟩
      ·
       rw [if_neg c6] at H
       exact absurd H (by simp)
     ·
      rw [if_neg c5] at H
      exact absurd H (by simp)
    ·
     rw [if_neg c4] at H
     have c4b0 : decide (x5_1 < (l0.length : Int)) = false := decide_eq_false c4
     clear c4
     obtain rfl := Option.some.inj H
     go_wp2
     go_ret
     exact ⟨by first | rfl | (simp [errW_none, errW_some] <;> rfl) | (simp [*, errW_none, errW_some] <;> rfl), by exact bw HB.out⟩
 ·
  rw [if_neg c3] at H
  have c3b0 : ((l0.length : Int) == (l1.length : Int)) = false := beq_eq_false_iff_ne.mpr c3
  have c3b1 : ((l0.length : Int) != (l1.length : Int)) = true := bne_iff_ne.mpr c3
  have c3b2 : (l0.length == l1.length) = false := by first | simpa using c3 | (simp at c3 ⊢; omega)
  obtain rfl := Option.some.inj H
  go_enter Try.func43, Try.ntmps43
  go_wp2
  go_ret
  exact ⟨by first | rfl | (simp [errW_none, errW_some] <;> rfl) | (simp [*, errW_none, errW_some] <;> rfl), by exact bw HB.out⟩

end Go.Proofs.Ytongmkdapcgmfaa.P
