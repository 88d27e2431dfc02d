-- Written by a program of this session (wip/tool).
import Derived.Test.YtongmkdapcgmfaaPx0
namespace Go.Proofs.Ytongmkdapcgmfaa.P
open Go.RowKit Go.Proofs.YtongmkdapcgmfaaW.PrintWords Go.Proofs.YtongmkdapcgmfaaW.PrintLast Go.Proofs.YtongmkdapcgmfaaW.PrintMore
attribute [local go_sem] max2_int min2_int max_two min_two max_three min_three max_four min_four   -- for this text's walks alone
set_option linter.unusedVariables false
set_option linter.unusedSimpArgs false

/-! ### laws_szExprS, laws_szExpr: functions that call each other -/
mutual
def laws_szExprS.l0 : Nat → List (S99) → Int → Int → Option (Int)
  | 0, _, _, _ => none
  | k + 1, x0, x1, x5 => if x5 < (x0.length : Int) then (if 0 ≤ x5 then ((laws_szExpr.f k ((rd_T99 x0 x5).f0) ((rd_T99 x0 x5).f1) ((rd_T99 x0 x5).f2) ((rd_T99 x0 x5).f3) x1).bind fun t819 => (if t819 < 0 then (some (-1)) else (laws_szExprS.l0 k x0 t819 (wrap64 (x5 + 1))))) else (none)) else (some x1)
def laws_szExprS.f : Nat → List (S99) → Int → Option (Int)
  | 0, _, _ => none
  | k + 1, l0, a1 => if (wrap64 (a1 - (l0.length : Int))) < 0 then (some (-1)) else (laws_szExprS.l0 k l0 (wrap64 (a1 - (l0.length : Int))) 0)
def laws_szExpr.f : Nat → Int → Int → ByteArray → List (S99) → Int → Option (Int)
  | 0, _, _, _, _, _ => none
  | k + 1, a0_0, a0_1, a0_2, l0_3, a1 => if (wrap64 (a1 - (a0_2.size : Int))) < 0 then (some (-1)) else ((laws_szExprS.f k l0_3 (wrap64 (a1 - (a0_2.size : Int)))).bind fun t821 => (if t821 < 0 then (some (-1)) else (some t821)))
end
theorem laws_szExprS.mono_l : ∀ k, (∀ y0 y1, LeO (laws_szExprS.f k y0 y1) (laws_szExprS.f (k + 1) y0 y1)) ∧ (∀ y0 y1 y2, LeO (laws_szExprS.l0 k y0 y1 y2) (laws_szExprS.l0 (k + 1) y0 y1 y2)) ∧ (∀ y0 y1 y2 y3 y4, LeO (laws_szExpr.f k y0 y1 y2 y3 y4) (laws_szExpr.f (k + 1) y0 y1 y2 y3 y4))
  | 0 => ⟨fun _ _ r h => by simp [laws_szExprS.f] at h, fun _ _ _ r h => by simp [laws_szExprS.l0] at h, fun _ _ _ _ _ r h => by simp [laws_szExpr.f] at h⟩
  | k + 1 => by
    obtain ⟨ih0, ih1, ih2⟩ := laws_szExprS.mono_l k
    refine ⟨?_, ?_, ?_⟩
    · intro y0 y1
      unfold laws_szExprS.f
      repeat' first
      | (with_reducible exact ih0 _ _)
      | (with_reducible exact ih1 _ _ _)
      | (with_reducible exact ih2 _ _ _ _ _)
      | (with_reducible exact LeO.refl _)
      | (with_reducible exact LeO.none _)
      | (with_reducible refine LeO.ite ?_ ?_)
      | (with_reducible refine LeO.bind ?_ (fun _ => ?_))
      | exact ih0 _ _
      | exact ih1 _ _ _
      | exact ih2 _ _ _ _ _
      | exact LeO.none _
      | refine LeO.ite ?_ ?_
      | refine LeO.bind ?_ (fun _ => ?_)
    · intro y0 y1 y2
      unfold laws_szExprS.l0
      repeat' first
      | (with_reducible exact ih0 _ _)
      | (with_reducible exact ih1 _ _ _)
      | (with_reducible exact ih2 _ _ _ _ _)
      | (with_reducible exact LeO.refl _)
      | (with_reducible exact LeO.none _)
      | (with_reducible refine LeO.ite ?_ ?_)
      | (with_reducible refine LeO.bind ?_ (fun _ => ?_))
      | exact ih0 _ _
      | exact ih1 _ _ _
      | exact ih2 _ _ _ _ _
      | exact LeO.none _
      | refine LeO.ite ?_ ?_
      | refine LeO.bind ?_ (fun _ => ?_)
    · intro y0 y1 y2 y3 y4
      unfold laws_szExpr.f
      repeat' first
      | (with_reducible exact ih0 _ _)
      | (with_reducible exact ih1 _ _ _)
      | (with_reducible exact ih2 _ _ _ _ _)
      | (with_reducible exact LeO.refl _)
      | (with_reducible exact LeO.none _)
      | (with_reducible refine LeO.ite ?_ ?_)
      | (with_reducible refine LeO.bind ?_ (fun _ => ?_))
      | exact ih0 _ _
      | exact ih1 _ _ _
      | exact ih2 _ _ _ _ _
      | exact LeO.none _
      | refine LeO.ite ?_ ?_
      | refine LeO.bind ?_ (fun _ => ?_)
theorem laws_szExprS.mono : ∀ a0 a1 k, LeO (laws_szExprS.f k a0 a1) (laws_szExprS.f (k + 1) a0 a1) := by
  intro a0 a1 k
  obtain ⟨ih0, ih1, ih2⟩ := laws_szExprS.mono_l k
  exact ih0 a0 a1
theorem laws_szExpr.mono : ∀ a0 a1 a2 a3 a4 k, LeO (laws_szExpr.f k a0 a1 a2 a3 a4) (laws_szExpr.f (k + 1) a0 a1 a2 a3 a4) := by
  intro a0 a1 a2 a3 a4 k
  obtain ⟨ih0, ih1, ih2⟩ := laws_szExprS.mono_l k
  exact ih2 a0 a1 a2 a3 a4
/-! ### laws_szExprS: function 105 -/
set_option maxHeartbeats 8000000 in
set_option maxRecDepth 100000 in
theorem laws_szExprS.step (k : Nat) (ih : ∀ m_, m_ < k → ∀ (A0 : Option Addr) (c0 : Nat) (l0 : List (S99)) (a1 : Int) (r : Int) (w : World) (hr0 : Kd.C k99 w A0 l0.length l0) (hc0 : l0.length ≤ c0) (h : laws_szExprS.f m_ l0 a1 = some r),
  Calls Try.prog 105 #[.slice A0 l0.length c0, .int .i64 a1] w fun e w' => e = .returned (.int .i64 r) ∧ Below w.heap.size w w') (ih_laws_szExpr : ∀ m_, m_ < k → ∀ (a0_0 : Int) (a0_1 : Int) (a0_2 : ByteArray) (A0_3 : Option Addr) (c0_3 : Nat) (l0_3 : List (S99)) (a1 : Int) (r : Int) (w : World) (hr0_3 : Kd.C k99 w A0_3 l0_3.length l0_3) (hc0_3 : l0_3.length ≤ c0_3) (h : laws_szExpr.f m_ a0_0 a0_1 a0_2 l0_3 a1 = some r),
  Calls Try.prog 97 #[.agg #[.int .i64 a0_0, .int .i64 a0_1, .string a0_2, .slice A0_3 l0_3.length c0_3], .int .i64 a1] w fun e w' => e = .returned (.int .i64 r) ∧ Below w.heap.size w w') : ∀ (A0 : Option Addr) (c0 : Nat) (l0 : List (S99)) (a1 : Int) (r : Int) (w : World) (hr0 : Kd.C k99 w A0 l0.length l0) (hc0 : l0.length ≤ c0) (h : laws_szExprS.f k l0 a1 = some r),
  Calls Try.prog 105 #[.slice A0 l0.length c0, .int .i64 a1] w fun e w' => e = .returned (.int .i64 r) ∧ Below w.heap.size w w' := by
 intro A0 c0 l0 a1 r w hr0 hc0 h
 cases k with
 | zero => exact absurd h (by simp [laws_szExprS.f])
 | succ k =>
 simp only [laws_szExprS.f] at h
 have hu99 := Try.underlying99
 have HR0 := Aside0.mk hr0
 have HC0 := Aside0.mk hc0
 clear hr0 hc0
 have HB := Aside0.mk (Below.refl w.heap.size w)
 have H : (if (wrap64 (a1 - (l0.length : Int))) < 0 then (some (-1)) else (laws_szExprS.l0 k l0 (wrap64 (a1 - (l0.length : Int))) 0)) = some r := h
 clear h
 by_cases c3 : (wrap64 (a1 - (l0.length : Int))) < 0
 ·
  rw [if_pos c3] at H
  have c3b0 : decide ((wrap64 (a1 - (l0.length : Int))) < 0) = true := decide_eq_true c3
  clear c3
  obtain rfl := Option.some.inj H
  go_enter Try.func105, Try.ntmps105
  go_wp2
  go_ret
  exact ⟨by first | rfl | (simp [errW_none, errW_some] <;> rfl) | (simp [*, errW_none, errW_some] <;> rfl), by exact bw HB.out⟩
 ·
  rw [if_neg c3] at H
  have c3b0 : decide ((wrap64 (a1 - (l0.length : Int))) < 0) = false := decide_eq_false c3
  clear c3
  have H' := Aside0.mk H
  clear H
  go_enter Try.func105, Try.ntmps105
  go_wp2
  go_loopg [1, 5] k (fun kq v1 v5 w' => ∃ (x1_1 : Int) (x5_1 : Int), v1 = .int .i64 x1_1 ∧ v5 = .int .i64 x5_1 ∧ Aside0 (laws_szExprS.l0 kq l0 x1_1 x5_1 = some r) ∧ Aside0 (kq ≤ k) ∧ Aside0 (Below w.heap.size w w'))
  case atStart => exact ⟨(wrap64 (a1 - (l0.length : Int))), (0), (by first | rfl | (simp; done) | (simp [*]; done)), (by first | rfl | (simp; done) | (simp [*]; done)), H', ⟨Nat.le_refl _⟩, ⟨by exact bw HB.out⟩⟩
  case round =>
   clear H'
   try clear c1
   try clear p2
   try clear c3
   try clear c3b0
   obtain ⟨x1_1, x5_1, rfl, rfl, HA, HK1, HB⟩ := hrel
   cases gk with
   | zero => exact absurd HA.out (by simp [laws_szExprS.l0])
   | succ k1 =>
    have H := HA.out
    clear HA
    simp only [laws_szExprS.l0] at H
    by_cases c4 : x5_1 < (l0.length : Int)
    ·
     rw [if_pos c4] at H
     have c4b0 : decide (x5_1 < (l0.length : Int)) = true := decide_eq_true c4
     clear c4
     by_cases c5 : 0 ≤ x5_1
     ·
      rw [if_pos c5] at H
      have c5b0 : decide (0 ≤ x5_1) = true := decide_eq_true c5
      clear c5
      replace H := Option.bind_eq_some_iff.mp H
      obtain ⟨t819, A60, H⟩ := H
      replace H : (if t819 < 0 then (some (-1)) else (laws_szExprS.l0 k1 l0 t819 (wrap64 (x5_1 + 1)))) = some r := H
      have A6 := Aside0.mk A60
      clear A60
      by_cases c7 : t819 < 0
      ·
       rw [if_pos c7] at H
       have c7b0 : decide (t819 < 0) = true := decide_eq_true c7
       clear c7
       obtain rfl := Option.some.inj H
       have p818 : 0 ≤ (x5_1 : Int) := of_decide_eq_true (by first | (with_reducible assumption) | assumption)
       have q818 : x5_1 < (l0.length : Int) := of_decide_eq_true (by first | (with_reducible assumption) | assumption)
       obtain ⟨ad818, A818_3, c818_3, e818, hx818_0, hx818_1, hx818_2, hx818_3, hl818_3, hi818_3⟩ := at_T99 HR0.out x5_1 p818 q818
       cases e818
       first | replace hx818_0 := (HB.out.cell (World.block_lt_of_cell? w _ hx818_0)).trans hx818_0 | skip
       first | replace hx818_1 := (HB.out.cell (World.block_lt_of_cell? w _ hx818_1)).trans hx818_1 | skip
       first | replace hx818_2 := (HB.out.cell (World.block_lt_of_cell? w _ hx818_2)).trans hx818_2 | skip
       first | replace hx818_3 := (HB.out.cell (World.block_lt_of_cell? w _ hx818_3)).trans hx818_3 | skip
       have HR818_3 := Aside0.mk hi818_3
       have HC818_3 := Aside0.mk hl818_3
       clear hi818_3 hl818_3
       replace p818 := eq_true p818
       replace q818 := eq_true q818
       go_wp2_with (first | ((with_reducible refine gate_callee (f := 97) rfl ?_); refine gl (some 23) Try.func97 #[.agg #[.int .i64 ((rd_T99 l0 x5_1).f0), .int .i64 ((rd_T99 l0 x5_1).f1), .string ((rd_T99 l0 x5_1).f2), .slice A818_3 ((rd_T99 l0 x5_1).f3).length c818_3], .int .i64 x1_1] ?_; (with_reducible refine (ih_laws_szExpr k1 (by have := HK1.out; omega) ((rd_T99 l0 x5_1).f0) ((rd_T99 l0 x5_1).f1) ((rd_T99 l0 x5_1).f2) _ _ ((rd_T99 l0 x5_1).f3) x1_1 t819 _ ?side1 ?side2 A6.out).mono ?_); (case side1 => repeat (first | exact (Kd.C_below HR818_3.out HB.out) | (with_reducible refine Kd.C_alloc ?_ _) | (with_reducible refine Kd.C_drewN ?_ _) | (with_reducible refine Kd.C_drew ?_))); (case side2 => exact HC818_3.out); rintro e w8 ⟨rfl, hb⟩; refine ⟨_, rfl, ?_⟩; have n0_ := Aside0.mk (below_step (by exact bw HB.out) hb); clear HB; have HB := n0_; clear n0_; (try clear hb); (try clear hb2); (try clear hk); (try clear hi)))
       go_ret
       exact ⟨by first | rfl | (simp [errW_none, errW_some] <;> rfl) | (simp [*, errW_none, errW_some] <;> rfl), by exact bw HB.out⟩
      ·
       rw [if_neg c7] at H
       have c7b0 : decide (t819 < 0) = false := decide_eq_false c7
       clear c7
       have H' := Aside0.mk H
       clear H
       have p818 : 0 ≤ (x5_1 : Int) := of_decide_eq_true (by first | (with_reducible assumption) | assumption)
       have q818 : x5_1 < (l0.length : Int) := of_decide_eq_true (by first | (with_reducible assumption) | assumption)
       obtain ⟨ad818, A818_3, c818_3, e818, hx818_0, hx818_1, hx818_2, hx818_3, hl818_3, hi818_3⟩ := at_T99 HR0.out x5_1 p818 q818
       cases e818
       first | replace hx818_0 := (HB.out.cell (World.block_lt_of_cell? w _ hx818_0)).trans hx818_0 | skip
       first | replace hx818_1 := (HB.out.cell (World.block_lt_of_cell? w _ hx818_1)).trans hx818_1 | skip
       first | replace hx818_2 := (HB.out.cell (World.block_lt_of_cell? w _ hx818_2)).trans hx818_2 | skip
       first | replace hx818_3 := (HB.out.cell (World.block_lt_of_cell? w _ hx818_3)).trans hx818_3 | skip
       have HR818_3 := Aside0.mk hi818_3
       have HC818_3 := Aside0.mk hl818_3
       clear hi818_3 hl818_3
       replace p818 := eq_true p818
       replace q818 := eq_true q818
       go_wp2_with (first | ((with_reducible refine gate_callee (f := 97) rfl ?_); refine gl (some 23) Try.func97 #[.agg #[.int .i64 ((rd_T99 l0 x5_1).f0), .int .i64 ((rd_T99 l0 x5_1).f1), .string ((rd_T99 l0 x5_1).f2), .slice A818_3 ((rd_T99 l0 x5_1).f3).length c818_3], .int .i64 x1_1] ?_; (with_reducible refine (ih_laws_szExpr k1 (by have := HK1.out; omega) ((rd_T99 l0 x5_1).f0) ((rd_T99 l0 x5_1).f1) ((rd_T99 l0 x5_1).f2) _ _ ((rd_T99 l0 x5_1).f3) x1_1 t819 _ ?side1 ?side2 A6.out).mono ?_); (case side1 => repeat (first | exact (Kd.C_below HR818_3.out HB.out) | (with_reducible refine Kd.C_alloc ?_ _) | (with_reducible refine Kd.C_drewN ?_ _) | (with_reducible refine Kd.C_drew ?_))); (case side2 => exact HC818_3.out); rintro e w9 ⟨rfl, hb⟩; refine ⟨_, rfl, ?_⟩; have n0_ := Aside0.mk (below_step (by exact bw HB.out) hb); clear HB; have HB := n0_; clear n0_; (try clear hb); (try clear hb2); (try clear hk); (try clear hi)))
       go_roundg k1
       case measure => have := HK1.out; omega
       case rel => exact ⟨(t819), (wrap64 (x5_1 + 1)), (by first | rfl | (simp; done) | (simp [*]; done)), (by first | rfl | (simp; done) | (simp [*]; done)), H', ⟨by have := HK1.out; omega⟩, ⟨by exact bw HB.out⟩⟩
     ·
      rw [if_neg c5] at H
      exact absurd H (by simp)
    ·
     rw [if_neg c4] at H
     have c4b0 : decide (x5_1 < (l0.length : Int)) = false := decide_eq_false c4
     clear c4
     obtain rfl := Option.some.inj H
     go_wp2
     go_ret
     exact ⟨by first | rfl | (simp [errW_none, errW_some] <;> rfl) | (simp [*, errW_none, errW_some] <;> rfl), by exact bw HB.out⟩

/-! ### laws_szExpr: function 97 -/
set_option maxHeartbeats 8000000 in
set_option maxRecDepth 100000 in
theorem laws_szExpr.step (k : Nat) (ih_laws_szExprS : ∀ m_, m_ < k → ∀ (A0 : Option Addr) (c0 : Nat) (l0 : List (S99)) (a1 : Int) (r : Int) (w : World) (hr0 : Kd.C k99 w A0 l0.length l0) (hc0 : l0.length ≤ c0) (h : laws_szExprS.f m_ l0 a1 = some r),
  Calls Try.prog 105 #[.slice A0 l0.length c0, .int .i64 a1] w fun e w' => e = .returned (.int .i64 r) ∧ Below w.heap.size w w') (ih : ∀ m_, m_ < k → ∀ (a0_0 : Int) (a0_1 : Int) (a0_2 : ByteArray) (A0_3 : Option Addr) (c0_3 : Nat) (l0_3 : List (S99)) (a1 : Int) (r : Int) (w : World) (hr0_3 : Kd.C k99 w A0_3 l0_3.length l0_3) (hc0_3 : l0_3.length ≤ c0_3) (h : laws_szExpr.f m_ a0_0 a0_1 a0_2 l0_3 a1 = some r),
  Calls Try.prog 97 #[.agg #[.int .i64 a0_0, .int .i64 a0_1, .string a0_2, .slice A0_3 l0_3.length c0_3], .int .i64 a1] w fun e w' => e = .returned (.int .i64 r) ∧ Below w.heap.size w w') : ∀ (a0_0 : Int) (a0_1 : Int) (a0_2 : ByteArray) (A0_3 : Option Addr) (c0_3 : Nat) (l0_3 : List (S99)) (a1 : Int) (r : Int) (w : World) (hr0_3 : Kd.C k99 w A0_3 l0_3.length l0_3) (hc0_3 : l0_3.length ≤ c0_3) (h : laws_szExpr.f k a0_0 a0_1 a0_2 l0_3 a1 = some r),
  Calls Try.prog 97 #[.agg #[.int .i64 a0_0, .int .i64 a0_1, .string a0_2, .slice A0_3 l0_3.length c0_3], .int .i64 a1] w fun e w' => e = .returned (.int .i64 r) ∧ Below w.heap.size w w' := by
 intro a0_0 a0_1 a0_2 A0_3 c0_3 l0_3 a1 r w hr0_3 hc0_3 h
 cases k with
 | zero => exact absurd h (by simp [laws_szExpr.f])
 | succ k =>
 simp only [laws_szExpr.f] at h
 have hu99 := Try.underlying99
 have HR0_3 := Aside0.mk hr0_3
 have HC0_3 := Aside0.mk hc0_3
 clear hr0_3 hc0_3
 have HB := Aside0.mk (Below.refl w.heap.size w)
 have H : (if (wrap64 (a1 - (a0_2.size : Int))) < 0 then (some (-1)) else ((laws_szExprS.f k l0_3 (wrap64 (a1 - (a0_2.size : Int)))).bind fun t821 => (if t821 < 0 then (some (-1)) else (some t821)))) = some r := h
 clear h
 by_cases c3 : (wrap64 (a1 - (a0_2.size : Int))) < 0
 ·
  rw [if_pos c3] at H
  have c3b0 : decide ((wrap64 (a1 - (a0_2.size : Int))) < 0) = true := decide_eq_true c3
  clear c3
  obtain rfl := Option.some.inj H
  go_enter Try.func97, Try.ntmps97
  go_wp2_with (first | ((with_reducible refine gate_dst (N := 2) rfl ?_); refine box_event ?hg (N := 2) ?hd (cs := #[.int .i64 a0_0, .int .i64 a0_1, .string a0_2, .slice A0_3 l0_3.length c0_3]) (t := 99) ?hr ?_; (case hd => rfl); (case hg => rfl); (case hr => first | (go_simp; done) | (go_simp; rfl)); intro gb820 hg w4 hbox hb; have n0_ := Aside0.mk (below_step (by exact bw HB.out) hb); have n1_ := Aside0.mk (hbox); have n2_ := Aside0.mk ((by rw [hg]; exact (below_size (by exact bw HB.out)) : w.heap.size ≤ gb820)); have n3_ := Aside0.mk ((by rw [hg]; exact (below_size (by exact bw HB.out)) : w.heap.size ≤ gb820)); clear HB; have HB := n0_; have BK820 := n1_; have GW820 := n2_; have GE820 := n3_; clear n0_ n1_ n2_ n3_; clear hb hbox hg; have hcz5_0 : w4.cell? ⟨gb820, 0, none⟩ = some (.int .i64 a0_0) := (blk_cell BK820.out 0).trans rfl; have hcz5_1 : w4.cell? ⟨gb820, 1, none⟩ = some (.int .i64 a0_1) := (blk_cell BK820.out 1).trans rfl; have hcz5_2 : w4.cell? ⟨gb820, 2, none⟩ = some (.string a0_2) := (blk_cell BK820.out 2).trans rfl; have hcz5_3 : w4.cell? ⟨gb820, 3, none⟩ = some (.slice A0_3 l0_3.length c0_3) := (blk_cell BK820.out 3).trans rfl; have hfz5_0 := blk_frozen BK820.out 0; have hfz5_1 := blk_frozen BK820.out 1; have hfz5_2 := blk_frozen BK820.out 2; have hfz5_3 := blk_frozen BK820.out 3))
  go_ret
  exact ⟨by first | rfl | (simp [errW_none, errW_some] <;> rfl) | (simp [*, errW_none, errW_some] <;> rfl), by exact bw HB.out⟩
 ·
  rw [if_neg c3] at H
  have c3b0 : decide ((wrap64 (a1 - (a0_2.size : Int))) < 0) = false := decide_eq_false c3
  clear c3
  replace H := Option.bind_eq_some_iff.mp H
  obtain ⟨t821, A60, H⟩ := H
  replace H : (if t821 < 0 then (some (-1)) else (some t821)) = some r := H
  have A6 := Aside0.mk A60
  clear A60
  by_cases c7 : t821 < 0
  ·
   rw [if_pos c7] at H
   have c7b0 : decide (t821 < 0) = true := decide_eq_true c7
   clear c7
   obtain rfl := Option.some.inj H
   go_enter Try.func97, Try.ntmps97
   go_wp2_with (first | ((with_reducible refine gate_dst (N := 2) rfl ?_); refine box_event ?hg (N := 2) ?hd (cs := #[.int .i64 a0_0, .int .i64 a0_1, .string a0_2, .slice A0_3 l0_3.length c0_3]) (t := 99) ?hr ?_; (case hd => rfl); (case hg => rfl); (case hr => first | (go_simp; done) | (go_simp; rfl)); intro gb820 hg w8 hbox hb; have n0_ := Aside0.mk (below_step (by exact bw HB.out) hb); have n1_ := Aside0.mk (hbox); have n2_ := Aside0.mk ((by rw [hg]; exact (below_size (by exact bw HB.out)) : w.heap.size ≤ gb820)); have n3_ := Aside0.mk ((by rw [hg]; exact (below_size (by exact bw HB.out)) : w.heap.size ≤ gb820)); clear HB; have HB := n0_; have BK820 := n1_; have GW820 := n2_; have GE820 := n3_; clear n0_ n1_ n2_ n3_; clear hb hbox hg; have hcz9_0 : w8.cell? ⟨gb820, 0, none⟩ = some (.int .i64 a0_0) := (blk_cell BK820.out 0).trans rfl; have hcz9_1 : w8.cell? ⟨gb820, 1, none⟩ = some (.int .i64 a0_1) := (blk_cell BK820.out 1).trans rfl; have hcz9_2 : w8.cell? ⟨gb820, 2, none⟩ = some (.string a0_2) := (blk_cell BK820.out 2).trans rfl; have hcz9_3 : w8.cell? ⟨gb820, 3, none⟩ = some (.slice A0_3 l0_3.length c0_3) := (blk_cell BK820.out 3).trans rfl; have hfz9_0 := blk_frozen BK820.out 0; have hfz9_1 := blk_frozen BK820.out 1; have hfz9_2 := blk_frozen BK820.out 2; have hfz9_3 := blk_frozen BK820.out 3) | ((with_reducible refine gate_callee (f := 105) rfl ?_); refine gl (some 15) Try.func105 #[.slice A0_3 l0_3.length c0_3, .int .i64 (wrap64 (a1 - (a0_2.size : Int)))] ?_; (with_reducible refine (ih_laws_szExprS k (by omega) _ _ l0_3 (wrap64 (a1 - (a0_2.size : Int))) t821 _ ?side1 ?side2 A6.out).mono ?_); (case side1 => repeat (first | exact (Kd.C_below HR0_3.out HB.out) | (with_reducible refine Kd.C_alloc ?_ _) | (with_reducible refine Kd.C_drewN ?_ _) | (with_reducible refine Kd.C_drew ?_))); (case side2 => exact HC0_3.out); rintro e w10 ⟨rfl, hb⟩; refine ⟨_, rfl, ?_⟩; have n0_ := Aside0.mk (blk_below (g := gb820) (o := .cells #[.int .i64 a0_0, .int .i64 a0_1, .string a0_2, .slice A0_3 l0_3.length c0_3] 99 (0, 0)) (by exact bk BK820.out) hb); have n1_ := Aside0.mk (below_step (by exact bw HB.out) hb); clear BK820; clear HB; have BK820 := n0_; have HB := n1_; clear n0_ n1_; (try clear hb); (try clear hb2); (try clear hk); (try clear hi)))
   go_ret
   exact ⟨by first | rfl | (simp [errW_none, errW_some] <;> rfl) | (simp [*, errW_none, errW_some] <;> rfl), by exact bw HB.out⟩
  ·
   rw [if_neg c7] at H
   have c7b0 : decide (t821 < 0) = false := decide_eq_false c7
   clear c7
   obtain rfl := Option.some.inj H
   go_enter Try.func97, Try.ntmps97
   go_wp2_with (first | ((with_reducible refine gate_dst (N := 2) rfl ?_); refine box_event ?hg (N := 2) ?hd (cs := #[.int .i64 a0_0, .int .i64 a0_1, .string a0_2, .slice A0_3 l0_3.length c0_3]) (t := 99) ?hr ?_; (case hd => rfl); (case hg => rfl); (case hr => first | (go_simp; done) | (go_simp; rfl)); intro gb820 hg w11 hbox hb; have n0_ := Aside0.mk (below_step (by exact bw HB.out) hb); have n1_ := Aside0.mk (hbox); have n2_ := Aside0.mk ((by rw [hg]; exact (below_size (by exact bw HB.out)) : w.heap.size ≤ gb820)); have n3_ := Aside0.mk ((by rw [hg]; exact (below_size (by exact bw HB.out)) : w.heap.size ≤ gb820)); clear HB; have HB := n0_; have BK820 := n1_; have GW820 := n2_; have GE820 := n3_; clear n0_ n1_ n2_ n3_; clear hb hbox hg; have hcz12_0 : w11.cell? ⟨gb820, 0, none⟩ = some (.int .i64 a0_0) := (blk_cell BK820.out 0).trans rfl; have hcz12_1 : w11.cell? ⟨gb820, 1, none⟩ = some (.int .i64 a0_1) := (blk_cell BK820.out 1).trans rfl; have hcz12_2 : w11.cell? ⟨gb820, 2, none⟩ = some (.string a0_2) := (blk_cell BK820.out 2).trans rfl; have hcz12_3 : w11.cell? ⟨gb820, 3, none⟩ = some (.slice A0_3 l0_3.length c0_3) := (blk_cell BK820.out 3).trans rfl; have hfz12_0 := blk_frozen BK820.out 0; have hfz12_1 := blk_frozen BK820.out 1; have hfz12_2 := blk_frozen BK820.out 2; have hfz12_3 := blk_frozen BK820.out 3) | ((with_reducible refine gate_callee (f := 105) rfl ?_); refine gl (some 15) Try.func105 #[.slice A0_3 l0_3.length c0_3, .int .i64 (wrap64 (a1 - (a0_2.size : Int)))] ?_; (with_reducible refine (ih_laws_szExprS k (by omega) _ _ l0_3 (wrap64 (a1 - (a0_2.size : Int))) t821 _ ?side1 ?side2 A6.out).mono ?_); (case side1 => repeat (first | exact (Kd.C_below HR0_3.out HB.out) | (with_reducible refine Kd.C_alloc ?_ _) | (with_reducible refine Kd.C_drewN ?_ _) | (with_reducible refine Kd.C_drew ?_))); (case side2 => exact HC0_3.out); rintro e w13 ⟨rfl, hb⟩; refine ⟨_, rfl, ?_⟩; have n0_ := Aside0.mk (blk_below (g := gb820) (o := .cells #[.int .i64 a0_0, .int .i64 a0_1, .string a0_2, .slice A0_3 l0_3.length c0_3] 99 (0, 0)) (by exact bk BK820.out) hb); have n1_ := Aside0.mk (below_step (by exact bw HB.out) hb); clear BK820; clear HB; have BK820 := n0_; have HB := n1_; clear n0_ n1_; (try clear hb); (try clear hb2); (try clear hk); (try clear hi)))
   go_ret
   exact ⟨by first | rfl | (simp [errW_none, errW_some] <;> rfl) | (simp [*, errW_none, errW_some] <;> rfl), by exact bw HB.out⟩

theorem laws_szExprS.calls_all (k : Nat) : (∀ (A0 : Option Addr) (c0 : Nat) (l0 : List (S99)) (a1 : Int) (r : Int) (w : World) (hr0 : Kd.C k99 w A0 l0.length l0) (hc0 : l0.length ≤ c0) (h : laws_szExprS.f k l0 a1 = some r),
    Calls Try.prog 105 #[.slice A0 l0.length c0, .int .i64 a1] w fun e w' => e = .returned (.int .i64 r) ∧ Below w.heap.size w w') ∧ (∀ (a0_0 : Int) (a0_1 : Int) (a0_2 : ByteArray) (A0_3 : Option Addr) (c0_3 : Nat) (l0_3 : List (S99)) (a1 : Int) (r : Int) (w : World) (hr0_3 : Kd.C k99 w A0_3 l0_3.length l0_3) (hc0_3 : l0_3.length ≤ c0_3) (h : laws_szExpr.f k a0_0 a0_1 a0_2 l0_3 a1 = some r),
    Calls Try.prog 97 #[.agg #[.int .i64 a0_0, .int .i64 a0_1, .string a0_2, .slice A0_3 l0_3.length c0_3], .int .i64 a1] w fun e w' => e = .returned (.int .i64 r) ∧ Below w.heap.size w w') := by
  induction k using Nat.strongRecOn with
  | _ k ih =>
  exact ⟨laws_szExprS.step k (fun m_ hm => (ih m_ hm).1) (fun m_ hm => (ih m_ hm).2), laws_szExpr.step k (fun m_ hm => (ih m_ hm).1) (fun m_ hm => (ih m_ hm).2)⟩
theorem laws_szExprS.calls (k : Nat) : (∀ (A0 : Option Addr) (c0 : Nat) (l0 : List (S99)) (a1 : Int) (r : Int) (w : World) (hr0 : Kd.C k99 w A0 l0.length l0) (hc0 : l0.length ≤ c0) (h : laws_szExprS.f k l0 a1 = some r),
    Calls Try.prog 105 #[.slice A0 l0.length c0, .int .i64 a1] w fun e w' => e = .returned (.int .i64 r) ∧ Below w.heap.size w w') := (laws_szExprS.calls_all k).1
theorem laws_szExpr.calls (k : Nat) : (∀ (a0_0 : Int) (a0_1 : Int) (a0_2 : ByteArray) (A0_3 : Option Addr) (c0_3 : Nat) (l0_3 : List (S99)) (a1 : Int) (r : Int) (w : World) (hr0_3 : Kd.C k99 w A0_3 l0_3.length l0_3) (hc0_3 : l0_3.length ≤ c0_3) (h : laws_szExpr.f k a0_0 a0_1 a0_2 l0_3 a1 = some r),
    Calls Try.prog 97 #[.agg #[.int .i64 a0_0, .int .i64 a0_1, .string a0_2, .slice A0_3 l0_3.length c0_3], .int .i64 a1] w fun e w' => e = .returned (.int .i64 r) ∧ Below w.heap.size w w') := (laws_szExprS.calls_all k).2

end Go.Proofs.Ytongmkdapcgmfaa.P
