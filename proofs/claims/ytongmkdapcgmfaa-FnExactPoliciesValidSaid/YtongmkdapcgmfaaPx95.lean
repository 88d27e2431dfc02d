-- Written by a program of this session (wip/tool).
import Derived.Test.YtongmkdapcgmfaaPx0
namespace Go.Proofs.Ytongmkdapcgmfaa.P
open Go.RowKit Go.Proofs.YtongmkdapcgmfaaW.PrintWords Go.Proofs.YtongmkdapcgmfaaW.PrintLast Go.Proofs.YtongmkdapcgmfaaW.PrintMore
attribute [local go_sem] max2_int min2_int max_two min_two max_three min_three max_four min_four   -- for this text's walks alone
set_option linter.unusedVariables false
set_option linter.unusedSimpArgs false

/-! ### laws_toExprS, laws_toExpr: functions that call each other -/
mutual
def laws_toExprS.l0 : Nat → List (S99) → List (S25) → Int → Option ((List (S25)))
  | 0, _, _, _ => none
  | k + 1, x0, x3, x4 => if x4 < (x0.length : Int) then (if 0 ≤ x4 then ((laws_toExpr.f k ((rd_T99 x0 x4).f0) ((rd_T99 x0 x4).f1) ((rd_T99 x0 x4).f2) ((rd_T99 x0 x4).f3)).bind fun bt852 => (if x4 < (x3.length : Int) then (laws_toExprS.l0 k x0 (x3.set (x4 : Int).toNat (⟨bt852.1, bt852.2.1, bt852.2.2.1, bt852.2.2.2⟩ : S25)) (wrap64 (x4 + 1))) else (none))) else (none)) else (some x3)
def laws_toExprS.f : Nat → List (S99) → Option ((List (S25)))
  | 0, _ => none
  | k + 1, l0 => if 0 ≤ (l0.length : Int) then (if ((l0.length : Int) : Int).toNat ≤ 5026338869833 then (laws_toExprS.l0 k l0 (List.replicate ((l0.length : Int) : Int).toNat z25) 0) else (none)) else (none)
def laws_toExpr.f : Nat → Int → Int → ByteArray → List (S99) → Option (Int × Int × ByteArray × (List (S25)))
  | 0, _, _, _, _ => none
  | k + 1, a0_0, a0_1, a0_2, l0_3 => (laws_toExprS.f k l0_3).bind fun t862 => (some (a0_0, a0_1, a0_2, t862))
end
theorem laws_toExprS.mono_l : ∀ k, (∀ y0, LeO (laws_toExprS.f k y0) (laws_toExprS.f (k + 1) y0)) ∧ (∀ y0 y1 y2, LeO (laws_toExprS.l0 k y0 y1 y2) (laws_toExprS.l0 (k + 1) y0 y1 y2)) ∧ (∀ y0 y1 y2 y3, LeO (laws_toExpr.f k y0 y1 y2 y3) (laws_toExpr.f (k + 1) y0 y1 y2 y3))
  | 0 => ⟨fun _ r h => by simp [laws_toExprS.f] at h, fun _ _ _ r h => by simp [laws_toExprS.l0] at h, fun _ _ _ _ r h => by simp [laws_toExpr.f] at h⟩
  | k + 1 => by
    obtain ⟨ih0, ih1, ih2⟩ := laws_toExprS.mono_l k
    refine ⟨?_, ?_, ?_⟩
    · intro y0
      unfold laws_toExprS.f
      repeat' first
      | (with_reducible exact ih0 _)
      | (with_reducible exact ih1 _ _ _)
      | (with_reducible exact ih2 _ _ _ _)
      | (with_reducible exact LeO.refl _)
      | (with_reducible exact LeO.none _)
      | (with_reducible refine LeO.ite ?_ ?_)
      | (with_reducible refine LeO.bind ?_ (fun _ => ?_))
      | exact ih0 _
      | exact ih1 _ _ _
      | exact ih2 _ _ _ _
      | exact LeO.none _
      | refine LeO.ite ?_ ?_
      | refine LeO.bind ?_ (fun _ => ?_)
    · intro y0 y1 y2
      unfold laws_toExprS.l0
      repeat' first
      | (with_reducible exact ih0 _)
      | (with_reducible exact ih1 _ _ _)
      | (with_reducible exact ih2 _ _ _ _)
      | (with_reducible exact LeO.refl _)
      | (with_reducible exact LeO.none _)
      | (with_reducible refine LeO.ite ?_ ?_)
      | (with_reducible refine LeO.bind ?_ (fun _ => ?_))
      | exact ih0 _
      | exact ih1 _ _ _
      | exact ih2 _ _ _ _
      | exact LeO.none _
      | refine LeO.ite ?_ ?_
      | refine LeO.bind ?_ (fun _ => ?_)
    · intro y0 y1 y2 y3
      unfold laws_toExpr.f
      repeat' first
      | (with_reducible exact ih0 _)
      | (with_reducible exact ih1 _ _ _)
      | (with_reducible exact ih2 _ _ _ _)
      | (with_reducible exact LeO.refl _)
      | (with_reducible exact LeO.none _)
      | (with_reducible refine LeO.ite ?_ ?_)
      | (with_reducible refine LeO.bind ?_ (fun _ => ?_))
      | exact ih0 _
      | exact ih1 _ _ _
      | exact ih2 _ _ _ _
      | exact LeO.none _
      | refine LeO.ite ?_ ?_
      | refine LeO.bind ?_ (fun _ => ?_)
theorem laws_toExprS.mono : ∀ a0 k, LeO (laws_toExprS.f k a0) (laws_toExprS.f (k + 1) a0) := by
  intro a0 k
  obtain ⟨ih0, ih1, ih2⟩ := laws_toExprS.mono_l k
  exact ih0 a0
theorem laws_toExpr.mono : ∀ a0 a1 a2 a3 k, LeO (laws_toExpr.f k a0 a1 a2 a3) (laws_toExpr.f (k + 1) a0 a1 a2 a3) := by
  intro a0 a1 a2 a3 k
  obtain ⟨ih0, ih1, ih2⟩ := laws_toExprS.mono_l k
  exact ih2 a0 a1 a2 a3
/-! ### laws_toExprS: function 106 -/
set_option maxHeartbeats 8000000 in
set_option maxRecDepth 100000 in
theorem laws_toExprS.step (k : Nat) (ih : ∀ m_, m_ < k → ∀ (A0 : Option Addr) (c0 : Nat) (l0 : List (S99)) (r : List (S25)) (w : World) (hr0 : Kd.C k99 w A0 l0.length l0) (hc0 : l0.length ≤ c0) (h : laws_toExprS.f m_ l0 = some r),
  Calls Try.prog 106 #[.slice A0 l0.length c0] w fun e w' => ∃ v0_ : Value, e = .returned (v0_) ∧ Kd.R k25 25 w' w.heap.size (fun _ => True) v0_ r ∧ Below w.heap.size w w') (ih_laws_toExpr : ∀ m_, m_ < k → ∀ (a0_0 : Int) (a0_1 : Int) (a0_2 : ByteArray) (A0_3 : Option Addr) (c0_3 : Nat) (l0_3 : List (S99)) (r1 : Int) (r2 : Int) (r3 : ByteArray) (r4 : List (S25)) (w : World) (hr0_3 : Kd.C k99 w A0_3 l0_3.length l0_3) (hc0_3 : l0_3.length ≤ c0_3) (h : laws_toExpr.f m_ a0_0 a0_1 a0_2 l0_3 = some (r1, r2, r3, r4)),
  Calls Try.prog 98 #[.agg #[.int .i64 a0_0, .int .i64 a0_1, .string a0_2, .slice A0_3 l0_3.length c0_3]] w fun e w' => ∃ v3_ : Value, e = .returned (.agg #[.int .i64 r1, .int .i64 r2, .string r3, v3_]) ∧ Kd.R k25 25 w' w.heap.size (fun _ => True) v3_ r4 ∧ Below w.heap.size w w') : ∀ (A0 : Option Addr) (c0 : Nat) (l0 : List (S99)) (r : List (S25)) (w : World) (hr0 : Kd.C k99 w A0 l0.length l0) (hc0 : l0.length ≤ c0) (h : laws_toExprS.f k l0 = some r),
  Calls Try.prog 106 #[.slice A0 l0.length c0] w fun e w' => ∃ v0_ : Value, e = .returned (v0_) ∧ Kd.R k25 25 w' w.heap.size (fun _ => True) v0_ r ∧ Below w.heap.size w w' := by
 intro A0 c0 l0 r w hr0 hc0 h
 cases k with
 | zero => exact absurd h (by simp [laws_toExprS.f])
 | succ k =>
 simp only [laws_toExprS.f] at h
 have hu99 := Try.underlying99
 have hu25 := Try.underlying25
 have HR0 := Aside0.mk hr0
 have HC0 := Aside0.mk hc0
 clear hr0 hc0
 have HB := Aside0.mk (Below.refl w.heap.size w)
 have H : (if 0 ≤ (l0.length : Int) then (if ((l0.length : Int) : Int).toNat ≤ 5026338869833 then (laws_toExprS.l0 k l0 (List.replicate ((l0.length : Int) : Int).toNat z25) 0) else (none)) else (none)) = some r := h
 clear h
 by_cases c2 : 0 ≤ (l0.length : Int)
 ·
  rw [if_pos c2] at H
  have c2b0 := eq_true c2
  have c2b1 : decide (0 ≤ (l0.length : Int)) = true := decide_eq_true c2
  clear c2
  by_cases c3 : ((l0.length : Int) : Int).toNat ≤ 5026338869833
  ·
   rw [if_pos c3] at H
   have c3b0 := eq_true c3
   have c3b1 : decide (((l0.length : Int) : Int).toNat ≤ 5026338869833) = true := decide_eq_true c3
   clear c3
   obtain ⟨y848, hy848⟩ : ∃ y_ : List (S25), y_ = (List.replicate ((l0.length : Int) : Int).toNat z25) := ⟨_, rfl⟩
   replace H : (laws_toExprS.l0 k l0 y848 0) = some r := by first | (rw [hy848]; with_reducible exact H) | (have H2_ := (Option.bind_some _ _).symm.trans H; rw [hy848]; with_reducible exact H2_) | (have H2_ := (Option.bind_some _ _).symm.trans H; with_reducible exact H2_) | with_reducible exact H | (rw [hy848]; exact H) | exact H
   have Ny848 := Aside0.mk hy848
   clear hy848
   have H' := Aside0.mk H
   clear H
   go_enter Try.func106, Try.ntmps106
   go_wp2_with (first | ((with_reducible refine gate_dst (N := 7) rfl ?_); refine Kd.R_make k25 _ 25 rfl (N := 7) rfl 23 _ _ rfl (l0.length : Int) rfl rfl Try.underlying23 (.agg #[(.int .i64 0), (.int .i64 0), (.string ⟨#[]⟩), (.slice none 0 0)]) 56 info25 rfl (by decide) (by omega) z25 (ok := fun _ => True) (okp := fun _ => True) (k25_mkM _ _ _ z25 (Kd.R_nil _ _ _ _ _)) (fun _ hk => hk) trivial (of_decide_eq_true (by first | (with_reducible assumption) | assumption)) (Nat.le_trans (Nat.mul_le_mul_right _ (of_decide_eq_true (by first | (with_reducible assumption) | assumption) : (l0.length : Int).toNat ≤ 5026338869833)) (by omega)) (Below.refl _ _) (Nat.le_refl _) ?_; intro v849 w4 ho5 hb hg_ hnew_; clear hg_ hnew_; (first | rw [← Ny848.out] at ho5 | (simp only [Int.reduceToNat] at ho5; rw [← Ny848.out] at ho5)); have n0_ := Aside0.mk (Kd.R_lower ho5 (below_size (by exact bw HB.out))); have n1_ := Aside0.mk (below_step (by exact bw HB.out) hb); clear HB; have HO850 := n0_; have HB := n1_; clear n0_ n1_; clear hb ho5))
   go_loopg [4] k (fun kq v4 w' => ∃ (x3_1 : List (S25)) (x4_1 : Int), v4 = .int .i64 x4_1 ∧ Aside0 (laws_toExprS.l0 kq l0 x3_1 x4_1 = some r) ∧ Aside0 (kq ≤ k) ∧ Aside0 (Kd.R k25 25 w' w.heap.size (fun _ => True) v849 x3_1) ∧ Aside0 (Below w.heap.size w w'))
   case atStart => exact ⟨(y848), (0), (by first | rfl | (simp; done) | (simp [*]; done)), H', ⟨Nat.le_refl _⟩, ⟨by exact Kd.xR HO850.out⟩, ⟨by exact bw HB.out⟩⟩
   case round =>
    clear H'
    try clear c1
    try clear c2
    try clear c2b0
    try clear c2b1
    try clear p2
    try clear c3
    try clear c3b0
    try clear c3b1
    obtain ⟨x3_1, x4_1, rfl, HA, HK1, HO_3, HB⟩ := hrel
    cases gk with
    | zero => exact absurd HA.out (by simp [laws_toExprS.l0])
    | succ k1 =>
     have H := HA.out
     clear HA
     simp only [laws_toExprS.l0] at H
     by_cases c6 : x4_1 < (l0.length : Int)
     ·
      rw [if_pos c6] at H
      have c6b0 : decide (x4_1 < (l0.length : Int)) = true := decide_eq_true c6
      clear c6
      by_cases c7 : 0 ≤ x4_1
      ·
       rw [if_pos c7] at H
       have c7b0 : decide (0 ≤ x4_1) = true := decide_eq_true c7
       clear c7
       replace H := Option.bind_eq_some_iff.mp H
       obtain ⟨⟨t852, t853, t854, t855⟩, A80, H⟩ := H
       replace H : (if x4_1 < (x3_1.length : Int) then (laws_toExprS.l0 k1 l0 (x3_1.set (x4_1 : Int).toNat (⟨t852, t853, t854, t855⟩ : S25)) (wrap64 (x4_1 + 1))) else (none)) = some r := H
       have A8 := Aside0.mk A80
       clear A80
       by_cases c9 : x4_1 < (x3_1.length : Int)
       ·
        rw [if_pos c9] at H
        have c9b0 : decide (x4_1 < (x3_1.length : Int)) = true := decide_eq_true c9
        clear c9
        obtain ⟨y858, hy858⟩ : ∃ y_ : List (S25), y_ = (x3_1.set (x4_1 : Int).toNat (⟨t852, t853, t854, t855⟩ : S25)) := ⟨_, rfl⟩
        replace H : (laws_toExprS.l0 k1 l0 y858 (wrap64 (x4_1 + 1))) = some r := by first | (rw [hy858]; with_reducible exact H) | (have H2_ := (Option.bind_some _ _).symm.trans H; rw [hy858]; with_reducible exact H2_) | (have H2_ := (Option.bind_some _ _).symm.trans H; with_reducible exact H2_) | with_reducible exact H | (rw [hy858]; exact H) | exact H
        have Ny858 := Aside0.mk hy858
        clear hy858
        have H' := Aside0.mk H
        clear H
        have p851 : 0 ≤ (x4_1 : Int) := of_decide_eq_true (by first | (with_reducible assumption) | assumption)
        have q851 : x4_1 < (l0.length : Int) := of_decide_eq_true (by first | (with_reducible assumption) | assumption)
        obtain ⟨ad851, A851_3, c851_3, e851, hx851_0, hx851_1, hx851_2, hx851_3, hl851_3, hi851_3⟩ := at_T99 HR0.out x4_1 p851 q851
        cases e851
        first | replace hx851_0 := (HB.out.cell (World.block_lt_of_cell? w _ hx851_0)).trans hx851_0 | skip
        first | replace hx851_1 := (HB.out.cell (World.block_lt_of_cell? w _ hx851_1)).trans hx851_1 | skip
        first | replace hx851_2 := (HB.out.cell (World.block_lt_of_cell? w _ hx851_2)).trans hx851_2 | skip
        first | replace hx851_3 := (HB.out.cell (World.block_lt_of_cell? w _ hx851_3)).trans hx851_3 | skip
        have HR851_3 := Aside0.mk hi851_3
        have HC851_3 := Aside0.mk hl851_3
        clear hi851_3 hl851_3
        replace p851 := eq_true p851
        replace q851 := eq_true q851
        go_wp2_with (first | ((with_reducible refine gate_callee (f := 98) rfl ?_); refine gl (some 20) Try.func98 #[.agg #[.int .i64 ((rd_T99 l0 x4_1).f0), .int .i64 ((rd_T99 l0 x4_1).f1), .string ((rd_T99 l0 x4_1).f2), .slice A851_3 ((rd_T99 l0 x4_1).f3).length c851_3]] ?_; (with_reducible refine (ih_laws_toExpr k1 (by have := HK1.out; omega) ((rd_T99 l0 x4_1).f0) ((rd_T99 l0 x4_1).f1) ((rd_T99 l0 x4_1).f2) _ _ ((rd_T99 l0 x4_1).f3) t852 t853 t854 t855 _ ?side1 ?side2 A8.out).mono ?_); (case side1 => repeat (first | exact (Kd.C_below HR851_3.out HB.out) | (with_reducible refine Kd.C_alloc ?_ _) | (with_reducible refine Kd.C_drewN ?_ _) | (with_reducible refine Kd.C_drew ?_))); (case side2 => exact HC851_3.out); rintro e w11 ⟨v856, rfl, ho0, hb⟩; refine ⟨_, rfl, ?_⟩; have n0_ := Aside0.mk (Kd.R_elder' (by exact Kd.xR HO_3.out) (Kd.R_base ho0) hb); have n1_ := Aside0.mk (Kd.R_lower (Kd.R_new' ho0 (Kd.R_lt (by exact Kd.xR HO_3.out))) (below_size (by exact bw HB.out))); have n2_ := Aside0.mk (below_step (by exact bw HB.out) hb); clear HO_3; clear HB; have HO_3 := n0_; have HO857 := n1_; have HB := n2_; clear n0_ n1_ n2_; (try clear hb); (try clear hb2); (try clear hk); (try clear hi); (try clear ho0); have p10 : 0 ≤ (x4_1 : Int) := of_decide_eq_true (by first | (with_reducible assumption) | assumption); have q10 : (x4_1 : Int) < ((x3_1.length : Int) : Int) := of_decide_eq_true (by first | (with_reducible assumption) | assumption); obtain ⟨go10, co10, eo10, gb10, gl10, cl10, HG10⟩ := Kd.R_form HO_3.out (by omega); (first | cases eo10 | (injection eo10 with ea_ en_ ec_; (first | subst ea_ | (injection ea_ with ea_; subst ea_)); subst ec_; clear en_)); have GB10 := Aside0.mk gb10; have GG10 := Aside0.mk HG10; clear gb10 gl10 HG10; obtain ⟨ce10, hcl10, hM10, hcc10, hfr10⟩ := Kd.R_elem HO_3.out z25 (x4_1 : Int) p10 q10; obtain ⟨ve10_3, rfl, ge10_3⟩ := k25_openM hM10; have hx10_0 : w11.cell? ⟨go10, (x4_1 : Int).toNat * 4, none⟩ = some (.int .i64 ((rd_T25 x3_1 x4_1).f0)) := hcc10 0 _ rfl; have hx10_1 : w11.cell? ⟨go10, (x4_1 : Int).toNat * 4 + 1, none⟩ = some (.int .i64 ((rd_T25 x3_1 x4_1).f1)) := hcc10 1 _ rfl; have hx10_2 : w11.cell? ⟨go10, (x4_1 : Int).toNat * 4 + 2, none⟩ = some (.string ((rd_T25 x3_1 x4_1).f2)) := hcc10 2 _ rfl; have hx10_3 : w11.cell? ⟨go10, (x4_1 : Int).toNat * 4 + 3, none⟩ = some (ve10_3) := hcc10 3 _ rfl; have hf10_0 : w11.frozen? ⟨go10, (x4_1 : Int).toNat * 4, none⟩ = false := hfr10 0; have hf10_1 : w11.frozen? ⟨go10, (x4_1 : Int).toNat * 4 + 1, none⟩ = false := hfr10 1; have hf10_2 : w11.frozen? ⟨go10, (x4_1 : Int).toNat * 4 + 2, none⟩ = false := hfr10 2; have hf10_3 : w11.frozen? ⟨go10, (x4_1 : Int).toNat * 4 + 3, none⟩ = false := hfr10 3; clear hcl10 hcc10 hfr10 hM10; replace p10 := eq_true p10; replace q10 := eq_true q10; obtain ⟨Ao12, co12, eo12⟩ := Kd.R_slice HO857.out; subst eo12; have n_ := Aside0.mk (Kd.R_mono (ok' := (fun k_ => some k_ ≠ (.slice Ao12 t855.length co12 : Value).ownBlock)) HO_3.out (fun k_ hk => hk.2)); clear HO_3; have HO_3 := n_; clear n_; have HX13 := Aside0.mk (show Kd.R k25 25 w11 w.heap.size (fun _ => True) (.slice (some ⟨go10, 0, none⟩) x3_1.length co10) x3_1 from (by (with_reducible repeat (first | apply Kd.R_alloc | apply Kd.R_drewN | apply Kd.R_drew)); exact Kd.R_mono HO_3.out (fun _ hk => trivial))); obtain ⟨ce13, hcl13, hM13, hcc13, hfr13⟩ := Kd.R_elem HX13.out z25 (x4_1 : Int) (of_decide_eq_true (by first | (with_reducible assumption) | assumption)) (by have h_ : (x4_1 : Int) < ((x3_1.length : Int) : Int) := of_decide_eq_true (by first | (with_reducible assumption) | assumption); first | exact h_ | (have e_ := (Kd.R_reads' HO_3.out).1; omega) | simpa using h_); obtain ⟨ve13_3, rfl, ge13_3⟩ := k25_openM hM13; have HP13 := Kd.R_seg HX13.out (x4_1 : Int) (of_decide_eq_true (by first | (with_reducible assumption) | assumption)) (by have h_ : (x4_1 : Int) < ((x3_1.length : Int) : Int) := of_decide_eq_true (by first | (with_reducible assumption) | assumption); first | exact h_ | (have e_ := (Kd.R_reads' HO_3.out).1; omega) | simpa using h_) (seg := [.int .i64 t852, .int .i64 t853, .string t854, .slice Ao12 t855.length co12]) (j := 0) hcl13 hcc13 (show 4 ≤ 4 from by decide) (x' := (⟨t852, t853, t854, t855⟩ : S25)) (k25_mkM _ _ _ (⟨t852, t853, t854, t855⟩ : S25) (Kd.R_mono (HO857.out) (fun k_ hk => ⟨trivial, fun e_ => (hk.2) (by rw [e_]; rfl)⟩))) (fun _ hk => hk); have hx13_0 := hcc13 0 _ rfl; (try simp only [show (k25).sz = 4 from rfl, Nat.mul_one, Nat.add_zero] at hx13_0); have hf13_0 := hfr13 0; (try simp only [show (k25).sz = 4 from rfl, Nat.mul_one, Nat.add_zero] at hf13_0); have hx13_1 := hcc13 1 _ rfl; (try simp only [show (k25).sz = 4 from rfl, Nat.mul_one, Nat.add_zero] at hx13_1); have hf13_1 := hfr13 1; (try simp only [show (k25).sz = 4 from rfl, Nat.mul_one, Nat.add_zero] at hf13_1); have hx13_2 := hcc13 2 _ rfl; (try simp only [show (k25).sz = 4 from rfl, Nat.mul_one, Nat.add_zero] at hx13_2); have hf13_2 := hfr13 2; (try simp only [show (k25).sz = 4 from rfl, Nat.mul_one, Nat.add_zero] at hf13_2); have hx13_3 := hcc13 3 _ rfl; (try simp only [show (k25).sz = 4 from rfl, Nat.mul_one, Nat.add_zero] at hx13_3); have hf13_3 := hfr13 3; (try simp only [show (k25).sz = 4 from rfl, Nat.mul_one, Nat.add_zero] at hf13_3); clear hcl13 hcc13 hfr13 hM13) | ((with_reducible refine gate_store (t := 25) (p := 21) rfl ?_); refine store_event (t := 25) (p := 21) (v := ?vo_w14) (w1 := ((((w11.setCell ⟨go10, (x4_1 : Int).toNat * 4, none⟩ (.int .i64 t852)).setCell ⟨go10, (x4_1 : Int).toNat * 4 + 1, none⟩ (.int .i64 t853)).setCell ⟨go10, (x4_1 : Int).toNat * 4 + 2, none⟩ (.string t854)).setCell ⟨go10, (x4_1 : Int).toNat * 4 + 3, none⟩ (.slice Ao12 t855.length co12))) ?hg ?ho ?hn ?hr ?_; (case ho => rfl); (case hg => rfl); (case hn => rfl); (case hr => first | (go_simp; done) | (go_simp; rfl)); intro w14 hw; have hg : w11.grownBy w14 (some go10) := (by rw [hw]; exact HP13.2); have hp_ : Kd.R k25 25 w14 w.heap.size (fun _ => True) (.slice (some ⟨go10, 0, none⟩) x3_1.length co10) y858 := (by rw [hw, Ny858.out]; exact HP13.1); clear HP13; have n0_ := Aside0.mk (hp_); have n1_ := Aside0.mk ((by rw [hw]; exact below_set (below_set (below_set (below_set (HB.out) GB10.out) GB10.out) GB10.out) GB10.out : Below w.heap.size w w14)); clear HO_3; clear HB; clear HO857; have HO_3 := n0_; have HB := n1_; clear n0_ n1_; clear hg hw hp_))
        go_roundg k1
        case measure => have := HK1.out; omega
        case rel => exact ⟨(y858), (wrap64 (x4_1 + 1)), (by first | rfl | (simp; done) | (simp [*]; done)), H', ⟨by have := HK1.out; omega⟩, ⟨by exact Kd.xR HO_3.out⟩, ⟨by exact bw HB.out⟩⟩
       ·
        rw [if_neg c9] at H
        exact absurd H (by simp)
      ·
       rw [if_neg c7] at H
       exact absurd H (by simp)
     ·
      rw [if_neg c6] at H
      have c6b0 : decide (x4_1 < (l0.length : Int)) = false := decide_eq_false c6
      clear c6
      obtain rfl := Option.some.inj H
      go_wp2
      go_ret
      exact ⟨_, by first | rfl | (simp [errW_none, errW_some] <;> rfl) | (simp [*, errW_none, errW_some] <;> rfl), by exact Kd.xR HO_3.out, by exact bw HB.out⟩
  ·
   rw [if_neg c3] at H
   exact absurd H (by simp)
 ·
  rw [if_neg c2] at H
  exact absurd H (by simp)

/-! ### laws_toExpr: function 98 -/
set_option maxHeartbeats 8000000 in
set_option maxRecDepth 100000 in
theorem laws_toExpr.step (k : Nat) (ih_laws_toExprS : ∀ m_, m_ < k → ∀ (A0 : Option Addr) (c0 : Nat) (l0 : List (S99)) (r : List (S25)) (w : World) (hr0 : Kd.C k99 w A0 l0.length l0) (hc0 : l0.length ≤ c0) (h : laws_toExprS.f m_ l0 = some r),
  Calls Try.prog 106 #[.slice A0 l0.length c0] w fun e w' => ∃ v0_ : Value, e = .returned (v0_) ∧ Kd.R k25 25 w' w.heap.size (fun _ => True) v0_ r ∧ Below w.heap.size w w') (ih : ∀ m_, m_ < k → ∀ (a0_0 : Int) (a0_1 : Int) (a0_2 : ByteArray) (A0_3 : Option Addr) (c0_3 : Nat) (l0_3 : List (S99)) (r1 : Int) (r2 : Int) (r3 : ByteArray) (r4 : List (S25)) (w : World) (hr0_3 : Kd.C k99 w A0_3 l0_3.length l0_3) (hc0_3 : l0_3.length ≤ c0_3) (h : laws_toExpr.f m_ a0_0 a0_1 a0_2 l0_3 = some (r1, r2, r3, r4)),
  Calls Try.prog 98 #[.agg #[.int .i64 a0_0, .int .i64 a0_1, .string a0_2, .slice A0_3 l0_3.length c0_3]] w fun e w' => ∃ v3_ : Value, e = .returned (.agg #[.int .i64 r1, .int .i64 r2, .string r3, v3_]) ∧ Kd.R k25 25 w' w.heap.size (fun _ => True) v3_ r4 ∧ Below w.heap.size w w') : ∀ (a0_0 : Int) (a0_1 : Int) (a0_2 : ByteArray) (A0_3 : Option Addr) (c0_3 : Nat) (l0_3 : List (S99)) (r1 : Int) (r2 : Int) (r3 : ByteArray) (r4 : List (S25)) (w : World) (hr0_3 : Kd.C k99 w A0_3 l0_3.length l0_3) (hc0_3 : l0_3.length ≤ c0_3) (h : laws_toExpr.f k a0_0 a0_1 a0_2 l0_3 = some (r1, r2, r3, r4)),
  Calls Try.prog 98 #[.agg #[.int .i64 a0_0, .int .i64 a0_1, .string a0_2, .slice A0_3 l0_3.length c0_3]] w fun e w' => ∃ v3_ : Value, e = .returned (.agg #[.int .i64 r1, .int .i64 r2, .string r3, v3_]) ∧ Kd.R k25 25 w' w.heap.size (fun _ => True) v3_ r4 ∧ Below w.heap.size w w' := by
 intro a0_0 a0_1 a0_2 A0_3 c0_3 l0_3 r1 r2 r3 r4 w hr0_3 hc0_3 h
 cases k with
 | zero => exact absurd h (by simp [laws_toExpr.f])
 | succ k =>
 simp only [laws_toExpr.f] at h
 have hu99 := Try.underlying99
 have hu25 := Try.underlying25
 have HR0_3 := Aside0.mk hr0_3
 have HC0_3 := Aside0.mk hc0_3
 clear hr0_3 hc0_3
 have HB := Aside0.mk (Below.refl w.heap.size w)
 have H : ((laws_toExprS.f k l0_3).bind fun t862 => (some (a0_0, a0_1, a0_2, t862))) = some (r1, r2, r3, r4) := h
 clear h
 replace H := Option.bind_eq_some_iff.mp H
 obtain ⟨t862, A20, H⟩ := H
 replace H : (some (a0_0, a0_1, a0_2, t862)) = some (r1, r2, r3, r4) := H
 have A2 := Aside0.mk A20
 clear A20
 simp only [Option.some.injEq, Prod.mk.injEq] at H
 obtain ⟨rfl, rfl, rfl, rfl⟩ := H
 go_enter Try.func98, Try.ntmps98
 go_wp2_with (first | ((with_reducible refine gate_dst (N := 1) rfl ?_); refine box_event ?hg (N := 1) ?hd (cs := #[.int .i64 a0_0, .int .i64 a0_1, .string a0_2, .slice A0_3 l0_3.length c0_3]) (t := 99) ?hr ?_; (case hd => rfl); (case hg => rfl); (case hr => first | (go_simp; done) | (go_simp; rfl)); intro gb859 hg w3 hbox hb; have n0_ := Aside0.mk (below_step (by exact bw HB.out) hb); have n1_ := Aside0.mk (hbox); have n2_ := Aside0.mk ((by rw [hg]; exact (below_size (by exact bw HB.out)) : w.heap.size ≤ gb859)); have n3_ := Aside0.mk ((by rw [hg]; exact (below_size (by exact bw HB.out)) : w.heap.size ≤ gb859)); clear HB; have HB := n0_; have BK859 := n1_; have GW859 := n2_; have GE859 := n3_; clear n0_ n1_ n2_ n3_; clear hb hbox hg) | ((with_reducible refine gate_dst (N := 2) rfl ?_); refine box_event ?hg (N := 2) ?hd (cs := #[.int .i64 0, .int .i64 0, .string (⟨#[]⟩ : ByteArray), .slice none 0 0]) (t := 25) ?hr ?_; (case hd => rfl); (case hg => rfl); (case hr => first | (go_simp; done) | (go_simp; rfl)); intro gb860 hg w4 hbox hb; have n0_ := Aside0.mk (blk_below (g := gb859) (o := .cells #[.int .i64 a0_0, .int .i64 a0_1, .string a0_2, .slice A0_3 l0_3.length c0_3] 99 (0, 0)) (by exact bk BK859.out) hb); have n1_ := Aside0.mk (below_step (by exact bw HB.out) hb); have n2_ := Aside0.mk (hbox); have n3_ := Aside0.mk ((by rw [hg]; exact (below_size (by exact bw HB.out)) : w.heap.size ≤ gb860)); have n4_ := Aside0.mk ((by rw [hg]; exact (below_size (by exact bw HB.out)) : w.heap.size ≤ gb860)); have n5_ := Aside0.mk ((by rw [hg]; exact Nat.ne_of_lt (blk_lt (g := gb859) (o := .cells #[.int .i64 a0_0, .int .i64 a0_1, .string a0_2, .slice A0_3 l0_3.length c0_3] 99 (0, 0)) (by exact bk BK859.out)) : gb859 ≠ gb860)); have n6_ := Aside0.mk ((by rw [hg]; exact Nat.ne_of_gt (blk_lt (g := gb859) (o := .cells #[.int .i64 a0_0, .int .i64 a0_1, .string a0_2, .slice A0_3 l0_3.length c0_3] 99 (0, 0)) (by exact bk BK859.out)) : gb860 ≠ gb859)); clear BK859; clear HB; have BK859 := n0_; have HB := n1_; have BK860 := n2_; have GW860 := n3_; have GE860 := n4_; have NB859_860 := n5_; have NB860_859 := n6_; clear n0_ n1_ n2_ n3_ n4_ n5_ n6_; clear hb hbox hg) | ((with_reducible refine gate_dst (N := 3) rfl ?_); refine box_event ?hg (N := 3) ?hd (cs := #[.int .i64 0, .int .i64 0, .string (⟨#[]⟩ : ByteArray), .slice none 0 0]) (t := 25) ?hr ?_; (case hd => rfl); (case hg => rfl); (case hr => first | (go_simp; done) | (go_simp; rfl)); intro gb861 hg w5 hbox hb; have n0_ := Aside0.mk (blk_below (g := gb859) (o := .cells #[.int .i64 a0_0, .int .i64 a0_1, .string a0_2, .slice A0_3 l0_3.length c0_3] 99 (0, 0)) (by exact bk BK859.out) hb); have n1_ := Aside0.mk (blk_below (g := gb860) (o := .cells #[.int .i64 0, .int .i64 0, .string (⟨#[]⟩ : ByteArray), .slice none 0 0] 25 (0, 0)) (by exact bk BK860.out) hb); have n2_ := Aside0.mk (below_step (by exact bw HB.out) hb); have n3_ := Aside0.mk (hbox); have n4_ := Aside0.mk ((by rw [hg]; exact (below_size (by exact bw HB.out)) : w.heap.size ≤ gb861)); have n5_ := Aside0.mk ((by rw [hg]; exact (below_size (by exact bw HB.out)) : w.heap.size ≤ gb861)); have n6_ := Aside0.mk ((by rw [hg]; exact Nat.ne_of_lt (blk_lt (g := gb859) (o := .cells #[.int .i64 a0_0, .int .i64 a0_1, .string a0_2, .slice A0_3 l0_3.length c0_3] 99 (0, 0)) (by exact bk BK859.out)) : gb859 ≠ gb861)); have n7_ := Aside0.mk ((by rw [hg]; exact Nat.ne_of_gt (blk_lt (g := gb859) (o := .cells #[.int .i64 a0_0, .int .i64 a0_1, .string a0_2, .slice A0_3 l0_3.length c0_3] 99 (0, 0)) (by exact bk BK859.out)) : gb861 ≠ gb859)); have n8_ := Aside0.mk ((by rw [hg]; exact Nat.ne_of_lt (blk_lt (g := gb860) (o := .cells #[.int .i64 0, .int .i64 0, .string (⟨#[]⟩ : ByteArray), .slice none 0 0] 25 (0, 0)) (by exact bk BK860.out)) : gb860 ≠ gb861)); have n9_ := Aside0.mk ((by rw [hg]; exact Nat.ne_of_gt (blk_lt (g := gb860) (o := .cells #[.int .i64 0, .int .i64 0, .string (⟨#[]⟩ : ByteArray), .slice none 0 0] 25 (0, 0)) (by exact bk BK860.out)) : gb861 ≠ gb860)); clear BK859; clear BK860; clear HB; have BK859 := n0_; have BK860 := n1_; have HB := n2_; have BK861 := n3_; have GW861 := n4_; have GE861 := n5_; have NB859_861 := n6_; have NB861_859 := n7_; have NB860_861 := n8_; have NB861_860 := n9_; clear n0_ n1_ n2_ n3_ n4_ n5_ n6_ n7_ n8_ n9_; clear hb hbox hg; have hnb6 := NB859_860.out; have hnc6 := NB860_859.out; have hnb7 := NB859_861.out; have hnc7 := NB861_859.out; have hcz8_0 : w5.cell? ⟨gb859, 0, none⟩ = some (.int .i64 a0_0) := (blk_cell BK859.out 0).trans rfl; have hcz8_1 : w5.cell? ⟨gb859, 1, none⟩ = some (.int .i64 a0_1) := (blk_cell BK859.out 1).trans rfl; have hcz8_2 : w5.cell? ⟨gb859, 2, none⟩ = some (.string a0_2) := (blk_cell BK859.out 2).trans rfl; have hcz8_3 : w5.cell? ⟨gb859, 3, none⟩ = some (.slice A0_3 l0_3.length c0_3) := (blk_cell BK859.out 3).trans rfl; have hfz8_0 := blk_frozen BK859.out 0; have hfz8_1 := blk_frozen BK859.out 1; have hfz8_2 := blk_frozen BK859.out 2; have hfz8_3 := blk_frozen BK859.out 3; have hnb9 := NB861_860.out; have hnc9 := NB860_861.out; have hcz10_0 : w5.cell? ⟨gb861, 0, none⟩ = some (.int .i64 0) := (blk_cell BK861.out 0).trans rfl; have hcz10_1 : w5.cell? ⟨gb861, 1, none⟩ = some (.int .i64 0) := (blk_cell BK861.out 1).trans rfl; have hcz10_2 : w5.cell? ⟨gb861, 2, none⟩ = some (.string (⟨#[]⟩ : ByteArray)) := (blk_cell BK861.out 2).trans rfl; have hcz10_3 : w5.cell? ⟨gb861, 3, none⟩ = some (.slice none 0 0) := (blk_cell BK861.out 3).trans rfl; have hfz10_0 := blk_frozen BK861.out 0; have hfz10_1 := blk_frozen BK861.out 1; have hfz10_2 := blk_frozen BK861.out 2; have hfz10_3 := blk_frozen BK861.out 3) | ((with_reducible refine gate_callee (f := 106) rfl ?_); refine gl (some 15) Try.func106 #[.slice A0_3 l0_3.length c0_3] ?_; (with_reducible refine (ih_laws_toExprS k (by omega) _ _ l0_3 t862 _ ?side1 ?side2 A2.out).mono ?_); (case side1 => exact Kd.C_below HR0_3.out (by exact bw HB.out)); (case side2 => exact HC0_3.out); rintro e w11 ⟨v863, rfl, ho0, hb⟩; refine ⟨_, rfl, ?_⟩; have n0_ := Aside0.mk (Kd.R_lower (Kd.R_newB (Kd.R_newB ho0 (g := gb860) (o := .cells #[.int .i64 0, .int .i64 0, .string (⟨#[]⟩ : ByteArray), .slice none 0 0] 25 (0, 0)) (by (with_reducible repeat (first | refine blk_drewN ?_ _ | refine blk_drew ?_ | refine blk_alloc ?_ _)); refine blk_far ?_ NB860_861.out _; (with_reducible repeat (first | refine blk_drewN ?_ _ | refine blk_drew ?_ | refine blk_alloc ?_ _)); refine blk_far ?_ NB860_861.out _; (with_reducible repeat (first | refine blk_drewN ?_ _ | refine blk_drew ?_ | refine blk_alloc ?_ _)); refine blk_far ?_ NB860_861.out _; exact bk BK860.out)) (g := gb861) (o := .cells #[.int .i64 a0_0, .int .i64 a0_1, .string a0_2, .slice none 0 0] 25 (0, 0)) (by (with_reducible repeat (first | refine blk_drewN ?_ _ | refine blk_drew ?_ | refine blk_alloc ?_ _)); refine blk_put (cs := #[.int .i64 a0_0, .int .i64 a0_1, .string (⟨#[]⟩ : ByteArray), .slice none 0 0]) ?_ 2 _ rfl; (with_reducible repeat (first | refine blk_drewN ?_ _ | refine blk_drew ?_ | refine blk_alloc ?_ _)); refine blk_put (cs := #[.int .i64 a0_0, .int .i64 0, .string (⟨#[]⟩ : ByteArray), .slice none 0 0]) ?_ 1 _ rfl; (with_reducible repeat (first | refine blk_drewN ?_ _ | refine blk_drew ?_ | refine blk_alloc ?_ _)); refine blk_put (cs := #[.int .i64 0, .int .i64 0, .string (⟨#[]⟩ : ByteArray), .slice none 0 0]) ?_ 0 _ rfl; exact bk BK861.out)) (below_size (by exact bw HB.out))); have n1_ := Aside0.mk (blk_below (g := gb859) (o := .cells #[.int .i64 a0_0, .int .i64 a0_1, .string a0_2, .slice A0_3 l0_3.length c0_3] 99 (0, 0)) (by (with_reducible repeat (first | refine blk_drewN ?_ _ | refine blk_drew ?_ | refine blk_alloc ?_ _)); refine blk_far ?_ NB859_861.out _; (with_reducible repeat (first | refine blk_drewN ?_ _ | refine blk_drew ?_ | refine blk_alloc ?_ _)); refine blk_far ?_ NB859_861.out _; (with_reducible repeat (first | refine blk_drewN ?_ _ | refine blk_drew ?_ | refine blk_alloc ?_ _)); refine blk_far ?_ NB859_861.out _; exact bk BK859.out) hb); have n2_ := Aside0.mk (blk_below (g := gb860) (o := .cells #[.int .i64 0, .int .i64 0, .string (⟨#[]⟩ : ByteArray), .slice none 0 0] 25 (0, 0)) (by (with_reducible repeat (first | refine blk_drewN ?_ _ | refine blk_drew ?_ | refine blk_alloc ?_ _)); refine blk_far ?_ NB860_861.out _; (with_reducible repeat (first | refine blk_drewN ?_ _ | refine blk_drew ?_ | refine blk_alloc ?_ _)); refine blk_far ?_ NB860_861.out _; (with_reducible repeat (first | refine blk_drewN ?_ _ | refine blk_drew ?_ | refine blk_alloc ?_ _)); refine blk_far ?_ NB860_861.out _; exact bk BK860.out) hb); have n3_ := Aside0.mk (blk_below (g := gb861) (o := .cells #[.int .i64 a0_0, .int .i64 a0_1, .string a0_2, .slice none 0 0] 25 (0, 0)) (by (with_reducible repeat (first | refine blk_drewN ?_ _ | refine blk_drew ?_ | refine blk_alloc ?_ _)); refine blk_put (cs := #[.int .i64 a0_0, .int .i64 a0_1, .string (⟨#[]⟩ : ByteArray), .slice none 0 0]) ?_ 2 _ rfl; (with_reducible repeat (first | refine blk_drewN ?_ _ | refine blk_drew ?_ | refine blk_alloc ?_ _)); refine blk_put (cs := #[.int .i64 a0_0, .int .i64 0, .string (⟨#[]⟩ : ByteArray), .slice none 0 0]) ?_ 1 _ rfl; (with_reducible repeat (first | refine blk_drewN ?_ _ | refine blk_drew ?_ | refine blk_alloc ?_ _)); refine blk_put (cs := #[.int .i64 0, .int .i64 0, .string (⟨#[]⟩ : ByteArray), .slice none 0 0]) ?_ 0 _ rfl; exact bk BK861.out) hb); have n4_ := Aside0.mk (below_step (by exact bw HB.out) hb); clear BK859; clear BK860; clear BK861; clear HB; have HO864 := n0_; have BK859 := n1_; have BK860 := n2_; have BK861 := n3_; have HB := n4_; clear n0_ n1_ n2_ n3_ n4_; (try clear hb); (try clear hb2); (try clear hk); (try clear hi); (try clear ho0); obtain ⟨Ao12, co12, eo12⟩ := Kd.R_slice HO864.out; subst eo12; have hcz13_0 : w11.cell? ⟨gb861, 0, none⟩ = some (.int .i64 a0_0) := (blk_cell BK861.out 0).trans rfl; have hcz13_1 : w11.cell? ⟨gb861, 1, none⟩ = some (.int .i64 a0_1) := (blk_cell BK861.out 1).trans rfl; have hcz13_2 : w11.cell? ⟨gb861, 2, none⟩ = some (.string a0_2) := (blk_cell BK861.out 2).trans rfl; have hcz13_3 : w11.cell? ⟨gb861, 3, none⟩ = some (.slice none 0 0) := (blk_cell BK861.out 3).trans rfl; have hfz13_0 := blk_frozen BK861.out 0; have hfz13_1 := blk_frozen BK861.out 1; have hfz13_2 := blk_frozen BK861.out 2; have hfz13_3 := blk_frozen BK861.out 3; have hcz14_0 : w11.cell? ⟨gb860, 0, none⟩ = some (.int .i64 0) := (blk_cell BK860.out 0).trans rfl; have hcz14_1 : w11.cell? ⟨gb860, 1, none⟩ = some (.int .i64 0) := (blk_cell BK860.out 1).trans rfl; have hcz14_2 : w11.cell? ⟨gb860, 2, none⟩ = some (.string (⟨#[]⟩ : ByteArray)) := (blk_cell BK860.out 2).trans rfl; have hcz14_3 : w11.cell? ⟨gb860, 3, none⟩ = some (.slice none 0 0) := (blk_cell BK860.out 3).trans rfl; have hfz14_0 := blk_frozen BK860.out 0; have hfz14_1 := blk_frozen BK860.out 1; have hfz14_2 := blk_frozen BK860.out 2; have hfz14_3 := blk_frozen BK860.out 3))
 refine bodyPost_ret (results_cell_row rfl _ _ gb860 25 #[.int .i64 a0_0, .int .i64 a0_1, .string a0_2, .slice Ao12 t862.length co12] (0, 0) _ rfl (by (with_reducible repeat (first | refine blk_drewN ?_ _ | refine blk_drew ?_ | refine blk_alloc ?_ _)); refine blk_put (cs := #[.int .i64 a0_0, .int .i64 a0_1, .string a0_2, .slice none 0 0]) ?_ 3 _ rfl; (with_reducible repeat (first | refine blk_drewN ?_ _ | refine blk_drew ?_ | refine blk_alloc ?_ _)); refine blk_put (cs := #[.int .i64 a0_0, .int .i64 a0_1, .string (⟨#[]⟩ : ByteArray), .slice none 0 0]) ?_ 2 _ rfl; (with_reducible repeat (first | refine blk_drewN ?_ _ | refine blk_drew ?_ | refine blk_alloc ?_ _)); refine blk_put (cs := #[.int .i64 a0_0, .int .i64 0, .string (⟨#[]⟩ : ByteArray), .slice none 0 0]) ?_ 1 _ rfl; (with_reducible repeat (first | refine blk_drewN ?_ _ | refine blk_drew ?_ | refine blk_alloc ?_ _)); refine blk_put (cs := #[.int .i64 0, .int .i64 0, .string (⟨#[]⟩ : ByteArray), .slice none 0 0]) ?_ 0 _ rfl; (with_reducible repeat (first | refine blk_drewN ?_ _ | refine blk_drew ?_ | refine blk_alloc ?_ _)); refine blk_far ?_ NB860_861.out _; exact bk BK860.out) Try.underlying25 rfl (by kernel_rfl)) rfl ?_
 exact ⟨_, by first | rfl | (simp [errW_none, errW_some] <;> rfl) | (simp [*, errW_none, errW_some] <;> rfl), by (with_reducible repeat (first | apply Kd.R_alloc | apply Kd.R_drewN | apply Kd.R_drew)); exact Kd.R_mono (Kd.R_far (p := ⟨gb860, 3, none⟩) (Kd.R_far (p := ⟨gb860, 2, none⟩) (Kd.R_far (p := ⟨gb860, 1, none⟩) (Kd.R_far (p := ⟨gb860, 0, none⟩) (Kd.R_far (p := ⟨gb861, 3, none⟩) (Kd.R_mono (Kd.R_mono HO864.out (fun k_ hk => (⟨hk, okp hk⟩ : _ ∧ k_ ≠ gb861))) (fun k_ hk => (⟨hk, okp hk⟩ : _ ∧ k_ ≠ gb860))) (fun _ hk => hk.1.2) (.slice Ao12 t862.length co12)) (fun _ hk => hk.2) (.int .i64 a0_0)) (fun _ hk => hk.2) (.int .i64 a0_1)) (fun _ hk => hk.2) (.string a0_2)) (fun _ hk => hk.2) (.slice Ao12 t862.length co12)) (fun _ hk => trivial), by exact bw HB.out⟩

theorem laws_toExprS.calls_all (k : Nat) : (∀ (A0 : Option Addr) (c0 : Nat) (l0 : List (S99)) (r : List (S25)) (w : World) (hr0 : Kd.C k99 w A0 l0.length l0) (hc0 : l0.length ≤ c0) (h : laws_toExprS.f k l0 = some r),
    Calls Try.prog 106 #[.slice A0 l0.length c0] w fun e w' => ∃ v0_ : Value, e = .returned (v0_) ∧ Kd.R k25 25 w' w.heap.size (fun _ => True) v0_ r ∧ Below w.heap.size w w') ∧ (∀ (a0_0 : Int) (a0_1 : Int) (a0_2 : ByteArray) (A0_3 : Option Addr) (c0_3 : Nat) (l0_3 : List (S99)) (r1 : Int) (r2 : Int) (r3 : ByteArray) (r4 : List (S25)) (w : World) (hr0_3 : Kd.C k99 w A0_3 l0_3.length l0_3) (hc0_3 : l0_3.length ≤ c0_3) (h : laws_toExpr.f k a0_0 a0_1 a0_2 l0_3 = some (r1, r2, r3, r4)),
    Calls Try.prog 98 #[.agg #[.int .i64 a0_0, .int .i64 a0_1, .string a0_2, .slice A0_3 l0_3.length c0_3]] w fun e w' => ∃ v3_ : Value, e = .returned (.agg #[.int .i64 r1, .int .i64 r2, .string r3, v3_]) ∧ Kd.R k25 25 w' w.heap.size (fun _ => True) v3_ r4 ∧ Below w.heap.size w w') := by
  induction k using Nat.strongRecOn with
  | _ k ih =>
  exact ⟨laws_toExprS.step k (fun m_ hm => (ih m_ hm).1) (fun m_ hm => (ih m_ hm).2), laws_toExpr.step k (fun m_ hm => (ih m_ hm).1) (fun m_ hm => (ih m_ hm).2)⟩
theorem laws_toExprS.calls (k : Nat) : (∀ (A0 : Option Addr) (c0 : Nat) (l0 : List (S99)) (r : List (S25)) (w : World) (hr0 : Kd.C k99 w A0 l0.length l0) (hc0 : l0.length ≤ c0) (h : laws_toExprS.f k l0 = some r),
    Calls Try.prog 106 #[.slice A0 l0.length c0] w fun e w' => ∃ v0_ : Value, e = .returned (v0_) ∧ Kd.R k25 25 w' w.heap.size (fun _ => True) v0_ r ∧ Below w.heap.size w w') := (laws_toExprS.calls_all k).1
theorem laws_toExpr.calls (k : Nat) : (∀ (a0_0 : Int) (a0_1 : Int) (a0_2 : ByteArray) (A0_3 : Option Addr) (c0_3 : Nat) (l0_3 : List (S99)) (r1 : Int) (r2 : Int) (r3 : ByteArray) (r4 : List (S25)) (w : World) (hr0_3 : Kd.C k99 w A0_3 l0_3.length l0_3) (hc0_3 : l0_3.length ≤ c0_3) (h : laws_toExpr.f k a0_0 a0_1 a0_2 l0_3 = some (r1, r2, r3, r4)),
    Calls Try.prog 98 #[.agg #[.int .i64 a0_0, .int .i64 a0_1, .string a0_2, .slice A0_3 l0_3.length c0_3]] w fun e w' => ∃ v3_ : Value, e = .returned (.agg #[.int .i64 r1, .int .i64 r2, .string r3, v3_]) ∧ Kd.R k25 25 w' w.heap.size (fun _ => True) v3_ r4 ∧ Below w.heap.size w w') := (laws_toExprS.calls_all k).2

end Go.Proofs.Ytongmkdapcgmfaa.P
