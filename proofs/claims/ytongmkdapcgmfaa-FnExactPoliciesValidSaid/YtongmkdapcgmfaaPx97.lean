-- Written by a program of this session (wip/tool).
import Derived.Test.YtongmkdapcgmfaaPx0
import Derived.Test.YtongmkdapcgmfaaPx96
namespace Go.Proofs.Ytongmkdapcgmfaa.P
open Go.RowKit Go.Proofs.YtongmkdapcgmfaaW.PrintWords Go.Proofs.YtongmkdapcgmfaaW.PrintLast Go.Proofs.YtongmkdapcgmfaaW.PrintMore
attribute [local go_sem] max2_int min2_int max_two min_two max_three min_three max_four min_four   -- for this text's walks alone
set_option linter.unusedVariables false
set_option linter.unusedSimpArgs false

/-! ### laws_toPolicyS: function 41 -/
def laws_toPolicyS.l0 : Nat → List (S101) → List (S27) → Int → Option ((List (S27)))
 | 0, _, _, _ => none
 | k + 1, x0, x3, x4 => if x4 < (x0.length : Int) then (if 0 ≤ x4 then ((laws_toPolicy.f k ((rd_T101 x0 x4).f0) ((rd_T101 x0 x4).f1) ((rd_T101 x0 x4).f2) ((rd_T101 x0 x4).f3) ((rd_T101 x0 x4).f4) ((rd_T101 x0 x4).f5.f0) ((rd_T101 x0 x4).f5.f1) ((rd_T101 x0 x4).f5.f2) ((rd_T101 x0 x4).f5.f3)).bind fun bt878 => (if x4 < (x3.length : Int) then (laws_toPolicyS.l0 k x0 (x3.set (x4 : Int).toNat (⟨bt878.1, bt878.2.1, bt878.2.2.1, bt878.2.2.2.1, bt878.2.2.2.2.1, (⟨bt878.2.2.2.2.2.1, bt878.2.2.2.2.2.2.1, bt878.2.2.2.2.2.2.2.1, bt878.2.2.2.2.2.2.2.2⟩ : S25)⟩ : S27)) (wrap64 (x4 + 1))) else (none))) else (none)) else (some x3)
def laws_toPolicyS.f (k : Nat) (l0 : List (S101)) : Option ((List (S27))) := if 0 ≤ (l0.length : Int) then (if ((l0.length : Int) : Int).toNat ≤ 2706490160679 then (laws_toPolicyS.l0 k l0 (List.replicate ((l0.length : Int) : Int).toNat z27) 0) else (none)) else (none)
theorem laws_toPolicyS.mono_l : ∀ k, (∀ y0 y1 y2, LeO (laws_toPolicyS.l0 k y0 y1 y2) (laws_toPolicyS.l0 (k + 1) y0 y1 y2))
 | 0 => fun _ _ _ r h => by simp [laws_toPolicyS.l0] at h
 | k + 1 => by
  have ih0 := laws_toPolicyS.mono_l k
  ·
   intro y0 y1 y2
   unfold laws_toPolicyS.l0
   repeat' first
   | (with_reducible exact ih0 _ _ _)
   | (with_reducible exact laws_toPolicy.mono _ _ _ _ _ _ _ _ _ _)
   | (with_reducible exact LeO.refl _)
   | (with_reducible exact LeO.none _)
   | (with_reducible refine LeO.ite ?_ ?_)
   | (with_reducible refine LeO.bind ?_ (fun _ => ?_))
   | exact ih0 _ _ _
   | exact laws_toPolicy.mono _ _ _ _ _ _ _ _ _ _
   | exact LeO.none _
   | refine LeO.ite ?_ ?_
   | refine LeO.bind ?_ (fun _ => ?_)
theorem laws_toPolicyS.mono : ∀ a0 k, LeO (laws_toPolicyS.f k a0) (laws_toPolicyS.f (k + 1) a0) := by
 intro a0 k
 have ih0 := laws_toPolicyS.mono_l k
 unfold laws_toPolicyS.f
 repeat' first
   | (with_reducible exact ih0 _ _ _)
   | (with_reducible exact laws_toPolicy.mono _ _ _ _ _ _ _ _ _ _)
   | (with_reducible exact LeO.refl _)
   | (with_reducible exact LeO.none _)
   | (with_reducible refine LeO.ite ?_ ?_)
   | (with_reducible refine LeO.bind ?_ (fun _ => ?_))
   | exact ih0 _ _ _
   | exact laws_toPolicy.mono _ _ _ _ _ _ _ _ _ _
   | exact LeO.none _
   | refine LeO.ite ?_ ?_
   | refine LeO.bind ?_ (fun _ => ?_)
set_option maxHeartbeats 8000000 in
set_option maxRecDepth 100000 in
theorem laws_toPolicyS.calls (k : Nat) (A0 : Option Addr) (c0 : Nat) (l0 : List (S101)) (r : List (S27)) (w : World) (hr0 : Kd.C k101 w A0 l0.length l0) (hc0 : l0.length ≤ c0) (h : laws_toPolicyS.f k l0 = some r) :
  Calls Try.prog 41 #[.slice A0 l0.length c0] w fun e w' => ∃ v0_ : Value, e = .returned (v0_) ∧ Kd.R k27 27 w' w.heap.size (fun _ => True) v0_ r ∧ Below w.heap.size w w' := by
 have hu101 := Try.underlying101
 have hu27 := Try.underlying27
 have HR0 := Aside0.mk hr0
 have HC0 := Aside0.mk hc0
 clear hr0 hc0
 have HB := Aside0.mk (Below.refl w.heap.size w)
 have H : (if 0 ≤ (l0.length : Int) then (if ((l0.length : Int) : Int).toNat ≤ 2706490160679 then (laws_toPolicyS.l0 k l0 (List.replicate ((l0.length : Int) : Int).toNat z27) 0) else (none)) else (none)) = some r := h
 clear h
 by_cases c2 : 0 ≤ (l0.length : Int)
 ·
  rw [if_pos c2] at H
  have c2b0 := eq_true c2
  have c2b1 : decide (0 ≤ (l0.length : Int)) = true := decide_eq_true c2
  clear c2
  by_cases c3 : ((l0.length : Int) : Int).toNat ≤ 2706490160679
  ·
   rw [if_pos c3] at H
   have c3b0 := eq_true c3
   have c3b1 : decide (((l0.length : Int) : Int).toNat ≤ 2706490160679) = true := decide_eq_true c3
   clear c3
   obtain ⟨y874, hy874⟩ : ∃ y_ : List (S27), y_ = (List.replicate ((l0.length : Int) : Int).toNat z27) := ⟨_, rfl⟩
   replace H : (laws_toPolicyS.l0 k l0 y874 0) = some r := by first | (rw [hy874]; with_reducible exact H) | (have H2_ := (Option.bind_some _ _).symm.trans H; rw [hy874]; with_reducible exact H2_) | (have H2_ := (Option.bind_some _ _).symm.trans H; with_reducible exact H2_) | with_reducible exact H | (rw [hy874]; exact H) | exact H
   have Ny874 := Aside0.mk hy874
   clear hy874
   have H' := Aside0.mk H
   clear H
   go_enter Try.func41, Try.ntmps41
   go_wp2_with (first | ((with_reducible refine gate_dst (N := 7) rfl ?_); refine Kd.R_make k27 _ 27 rfl (N := 7) rfl 62 _ _ rfl (l0.length : Int) rfl rfl Try.underlying62 (.agg #[(.string ⟨#[]⟩), (.bool false), (.int .i64 0), (.int .i64 0), (.int .i64 0), (.int .i64 0), (.int .i64 0), (.string ⟨#[]⟩), (.slice none 0 0)]) 104 info27 rfl (by decide) (by omega) z27 (ok := fun _ => True) (okp := fun _ => True) (k27_mkM _ _ _ z27 (Kd.R_nil _ _ _ _ _)) (fun _ hk => hk) trivial (of_decide_eq_true (by first | (with_reducible assumption) | assumption)) (Nat.le_trans (Nat.mul_le_mul_right _ (of_decide_eq_true (by first | (with_reducible assumption) | assumption) : (l0.length : Int).toNat ≤ 2706490160679)) (by omega)) (Below.refl _ _) (Nat.le_refl _) ?_; intro v875 w4 ho5 hb hg_ hnew_; clear hg_ hnew_; (first | rw [← Ny874.out] at ho5 | (simp only [Int.reduceToNat] at ho5; rw [← Ny874.out] at ho5)); have n0_ := Aside0.mk (Kd.R_lower ho5 (below_size (by exact bw HB.out))); have n1_ := Aside0.mk (below_step (by exact bw HB.out) hb); clear HB; have HO876 := n0_; have HB := n1_; clear n0_ n1_; clear hb ho5))
   go_loopg [4] k (fun kq v4 w' => ∃ (x3_1 : List (S27)) (x4_1 : Int), v4 = .int .i64 x4_1 ∧ Aside0 (laws_toPolicyS.l0 kq l0 x3_1 x4_1 = some r) ∧ Aside0 (kq ≤ k) ∧ Aside0 (Kd.R k27 27 w' w.heap.size (fun _ => True) v875 x3_1) ∧ Aside0 (Below w.heap.size w w'))
   case atStart => exact ⟨(y874), (0), (by first | rfl | (simp; done) | (simp [*]; done)), H', ⟨Nat.le_refl _⟩, ⟨by exact Kd.xR HO876.out⟩, ⟨by exact bw HB.out⟩⟩
   case round =>
    clear H'
    try clear c2
    try clear c2b0
    try clear c2b1
    try clear p2
    try clear c3
    try clear c3b0
    try clear c3b1
    try clear c4
    obtain ⟨x3_1, x4_1, rfl, HA, HK1, HO_3, HB⟩ := hrel
    cases gk with
    | zero => exact absurd HA.out (by simp [laws_toPolicyS.l0])
    | succ k1 =>
     have H := HA.out
     clear HA
     simp only [laws_toPolicyS.l0] at H
     by_cases c6 : x4_1 < (l0.length : Int)
     ·
      rw [if_pos c6] at H
      have c6b0 : decide (x4_1 < (l0.length : Int)) = true := decide_eq_true c6
      clear c6
      by_cases c7 : 0 ≤ x4_1
      ·
       rw [if_pos c7] at H
       have c7b0 : decide (0 ≤ x4_1) = true := decide_eq_true c7
       clear c7
       replace H := Option.bind_eq_some_iff.mp H
       obtain ⟨⟨t878, t879, t880, t881, t882, t883, t884, t885, t886⟩, A80, H⟩ := H
       replace H : (if x4_1 < (x3_1.length : Int) then (laws_toPolicyS.l0 k1 l0 (x3_1.set (x4_1 : Int).toNat (⟨t878, t879, t880, t881, t882, (⟨t883, t884, t885, t886⟩ : S25)⟩ : S27)) (wrap64 (x4_1 + 1))) else (none)) = some r := H
       have A8 := Aside0.mk A80
       clear A80
       by_cases c9 : x4_1 < (x3_1.length : Int)
       ·
        rw [if_pos c9] at H
        have c9b0 : decide (x4_1 < (x3_1.length : Int)) = true := decide_eq_true c9
        clear c9
        obtain ⟨y889, hy889⟩ : ∃ y_ : List (S27), y_ = (x3_1.set (x4_1 : Int).toNat (⟨t878, t879, t880, t881, t882, (⟨t883, t884, t885, t886⟩ : S25)⟩ : S27)) := ⟨_, rfl⟩
        replace H : (laws_toPolicyS.l0 k1 l0 y889 (wrap64 (x4_1 + 1))) = some r := by first | (rw [hy889]; with_reducible exact H) | (have H2_ := (Option.bind_some _ _).symm.trans H; rw [hy889]; with_reducible exact H2_) | (have H2_ := (Option.bind_some _ _).symm.trans H; with_reducible exact H2_) | with_reducible exact H | (rw [hy889]; exact H) | exact H
        have Ny889 := Aside0.mk hy889
        clear hy889
        have H' := Aside0.mk H
        clear H
        have p877 : 0 ≤ (x4_1 : Int) := of_decide_eq_true (by first | (with_reducible assumption) | assumption)
        have q877 : x4_1 < (l0.length : Int) := of_decide_eq_true (by first | (with_reducible assumption) | assumption)
        obtain ⟨ad877, A877_8, c877_8, e877, hx877_0, hx877_1, hx877_2, hx877_3, hx877_4, hx877_5, hx877_6, hx877_7, hx877_8, hl877_8, hi877_8⟩ := at_T101 HR0.out x4_1 p877 q877
        cases e877
        first | replace hx877_0 := (HB.out.cell (World.block_lt_of_cell? w _ hx877_0)).trans hx877_0 | skip
        first | replace hx877_1 := (HB.out.cell (World.block_lt_of_cell? w _ hx877_1)).trans hx877_1 | skip
        first | replace hx877_2 := (HB.out.cell (World.block_lt_of_cell? w _ hx877_2)).trans hx877_2 | skip
        first | replace hx877_3 := (HB.out.cell (World.block_lt_of_cell? w _ hx877_3)).trans hx877_3 | skip
        first | replace hx877_4 := (HB.out.cell (World.block_lt_of_cell? w _ hx877_4)).trans hx877_4 | skip
        first | replace hx877_5 := (HB.out.cell (World.block_lt_of_cell? w _ hx877_5)).trans hx877_5 | skip
        first | replace hx877_6 := (HB.out.cell (World.block_lt_of_cell? w _ hx877_6)).trans hx877_6 | skip
        first | replace hx877_7 := (HB.out.cell (World.block_lt_of_cell? w _ hx877_7)).trans hx877_7 | skip
        first | replace hx877_8 := (HB.out.cell (World.block_lt_of_cell? w _ hx877_8)).trans hx877_8 | skip
        have HR877_8 := Aside0.mk hi877_8
        have HC877_8 := Aside0.mk hl877_8
        clear hi877_8 hl877_8
        replace p877 := eq_true p877
        replace q877 := eq_true q877
        go_wp2_with (first | ((with_reducible refine gate_callee (f := 73) rfl ?_); refine gl (some 20) Try.func73 #[.agg #[.string ((rd_T101 l0 x4_1).f0), .bool ((rd_T101 l0 x4_1).f1), .int .i64 ((rd_T101 l0 x4_1).f2), .int .i64 ((rd_T101 l0 x4_1).f3), .int .i64 ((rd_T101 l0 x4_1).f4), .int .i64 ((rd_T101 l0 x4_1).f5.f0), .int .i64 ((rd_T101 l0 x4_1).f5.f1), .string ((rd_T101 l0 x4_1).f5.f2), .slice A877_8 ((rd_T101 l0 x4_1).f5.f3).length c877_8]] ?_; (with_reducible refine (laws_toPolicy.calls k1 ((rd_T101 l0 x4_1).f0) ((rd_T101 l0 x4_1).f1) ((rd_T101 l0 x4_1).f2) ((rd_T101 l0 x4_1).f3) ((rd_T101 l0 x4_1).f4) ((rd_T101 l0 x4_1).f5.f0) ((rd_T101 l0 x4_1).f5.f1) ((rd_T101 l0 x4_1).f5.f2) _ _ ((rd_T101 l0 x4_1).f5.f3) t878 t879 t880 t881 t882 t883 t884 t885 t886 _ ?side1 ?side2 A8.out).mono ?_); (case side1 => repeat (first | exact (Kd.C_below HR877_8.out HB.out) | (with_reducible refine Kd.C_alloc ?_ _) | (with_reducible refine Kd.C_drewN ?_ _) | (with_reducible refine Kd.C_drew ?_))); (case side2 => exact HC877_8.out); rintro e w11 ⟨v887, rfl, ho0, hb⟩; refine ⟨_, rfl, ?_⟩; have n0_ := Aside0.mk (Kd.R_elder' (by exact Kd.xR HO_3.out) (Kd.R_base ho0) hb); have n1_ := Aside0.mk (Kd.R_lower ho0 (below_size (by exact bw HB.out))); have n2_ := Aside0.mk (below_step (by exact bw HB.out) hb); clear HO_3; clear HB; have HO_3 := n0_; have HO888 := n1_; have HB := n2_; clear n0_ n1_ n2_; (try clear hb); (try clear hb2); (try clear hk); (try clear hi); (try clear ho0); have p10 : 0 ≤ (x4_1 : Int) := of_decide_eq_true (by first | (with_reducible assumption) | assumption); have q10 : (x4_1 : Int) < ((x3_1.length : Int) : Int) := of_decide_eq_true (by first | (with_reducible assumption) | assumption); obtain ⟨go10, co10, eo10, gb10, gl10, cl10, HG10⟩ := Kd.R_form HO_3.out (by omega); (first | cases eo10 | (injection eo10 with ea_ en_ ec_; (first | subst ea_ | (injection ea_ with ea_; subst ea_)); subst ec_; clear en_)); have GB10 := Aside0.mk gb10; have GG10 := Aside0.mk HG10; clear gb10 gl10 HG10; obtain ⟨ce10, hcl10, hM10, hcc10, hfr10⟩ := Kd.R_elem HO_3.out z27 (x4_1 : Int) p10 q10; obtain ⟨ve10_8, rfl, ge10_8⟩ := k27_openM hM10; have hx10_0 : w11.cell? ⟨go10, (x4_1 : Int).toNat * 9, none⟩ = some (.string ((rd_T27 x3_1 x4_1).f0)) := hcc10 0 _ rfl; have hx10_1 : w11.cell? ⟨go10, (x4_1 : Int).toNat * 9 + 1, none⟩ = some (.bool ((rd_T27 x3_1 x4_1).f1)) := hcc10 1 _ rfl; have hx10_2 : w11.cell? ⟨go10, (x4_1 : Int).toNat * 9 + 2, none⟩ = some (.int .i64 ((rd_T27 x3_1 x4_1).f2)) := hcc10 2 _ rfl; have hx10_3 : w11.cell? ⟨go10, (x4_1 : Int).toNat * 9 + 3, none⟩ = some (.int .i64 ((rd_T27 x3_1 x4_1).f3)) := hcc10 3 _ rfl; have hx10_4 : w11.cell? ⟨go10, (x4_1 : Int).toNat * 9 + 4, none⟩ = some (.int .i64 ((rd_T27 x3_1 x4_1).f4)) := hcc10 4 _ rfl; have hx10_5 : w11.cell? ⟨go10, (x4_1 : Int).toNat * 9 + 5, none⟩ = some (.int .i64 ((rd_T27 x3_1 x4_1).f5.f0)) := hcc10 5 _ rfl; have hx10_6 : w11.cell? ⟨go10, (x4_1 : Int).toNat * 9 + 6, none⟩ = some (.int .i64 ((rd_T27 x3_1 x4_1).f5.f1)) := hcc10 6 _ rfl; have hx10_7 : w11.cell? ⟨go10, (x4_1 : Int).toNat * 9 + 7, none⟩ = some (.string ((rd_T27 x3_1 x4_1).f5.f2)) := hcc10 7 _ rfl; have hx10_8 : w11.cell? ⟨go10, (x4_1 : Int).toNat * 9 + 8, none⟩ = some (ve10_8) := hcc10 8 _ rfl; have hf10_0 : w11.frozen? ⟨go10, (x4_1 : Int).toNat * 9, none⟩ = false := hfr10 0; have hf10_1 : w11.frozen? ⟨go10, (x4_1 : Int).toNat * 9 + 1, none⟩ = false := hfr10 1; have hf10_2 : w11.frozen? ⟨go10, (x4_1 : Int).toNat * 9 + 2, none⟩ = false := hfr10 2; have hf10_3 : w11.frozen? ⟨go10, (x4_1 : Int).toNat * 9 + 3, none⟩ = false := hfr10 3; have hf10_4 : w11.frozen? ⟨go10, (x4_1 : Int).toNat * 9 + 4, none⟩ = false := hfr10 4; have hf10_5 : w11.frozen? ⟨go10, (x4_1 : Int).toNat * 9 + 5, none⟩ = false := hfr10 5; have hf10_6 : w11.frozen? ⟨go10, (x4_1 : Int).toNat * 9 + 6, none⟩ = false := hfr10 6; have hf10_7 : w11.frozen? ⟨go10, (x4_1 : Int).toNat * 9 + 7, none⟩ = false := hfr10 7; have hf10_8 : w11.frozen? ⟨go10, (x4_1 : Int).toNat * 9 + 8, none⟩ = false := hfr10 8; clear hcl10 hcc10 hfr10 hM10; replace p10 := eq_true p10; replace q10 := eq_true q10; obtain ⟨Ao12, co12, eo12⟩ := Kd.R_slice HO888.out; subst eo12; have n_ := Aside0.mk (Kd.R_mono (ok' := (fun k_ => some k_ ≠ (.slice Ao12 t886.length co12 : Value).ownBlock)) HO_3.out (fun k_ hk => hk.2)); clear HO_3; have HO_3 := n_; clear n_; have HX13 := Aside0.mk (show Kd.R k27 27 w11 w.heap.size (fun _ => True) (.slice (some ⟨go10, 0, none⟩) x3_1.length co10) x3_1 from (by (with_reducible repeat (first | apply Kd.R_alloc | apply Kd.R_drewN | apply Kd.R_drew)); exact Kd.R_mono HO_3.out (fun _ hk => trivial))); obtain ⟨ce13, hcl13, hM13, hcc13, hfr13⟩ := Kd.R_elem HX13.out z27 (x4_1 : Int) (of_decide_eq_true (by first | (with_reducible assumption) | assumption)) (by have h_ : (x4_1 : Int) < ((x3_1.length : Int) : Int) := of_decide_eq_true (by first | (with_reducible assumption) | assumption); first | exact h_ | (have e_ := (Kd.R_reads' HO_3.out).1; omega) | simpa using h_); obtain ⟨ve13_8, rfl, ge13_8⟩ := k27_openM hM13; have HP13 := Kd.R_seg HX13.out (x4_1 : Int) (of_decide_eq_true (by first | (with_reducible assumption) | assumption)) (by have h_ : (x4_1 : Int) < ((x3_1.length : Int) : Int) := of_decide_eq_true (by first | (with_reducible assumption) | assumption); first | exact h_ | (have e_ := (Kd.R_reads' HO_3.out).1; omega) | simpa using h_) (seg := [.string t878, .bool t879, .int .i64 t880, .int .i64 t881, .int .i64 t882, .int .i64 t883, .int .i64 t884, .string t885, .slice Ao12 t886.length co12]) (j := 0) hcl13 hcc13 (show 9 ≤ 9 from by decide) (x' := (⟨t878, t879, t880, t881, t882, (⟨t883, t884, t885, t886⟩ : S25)⟩ : S27)) (k27_mkM _ _ _ (⟨t878, t879, t880, t881, t882, (⟨t883, t884, t885, t886⟩ : S25)⟩ : S27) (Kd.R_mono (Kd.R_apart' (HO888.out) (Kd.R_typed HO_3.out) (by decide)) (fun k_ hk => ⟨trivial, fun e_ => (hk.2) (by rw [e_]; rfl)⟩))) (fun _ hk => hk); have hx13_0 := hcc13 0 _ rfl; (try simp only [show (k27).sz = 9 from rfl, Nat.mul_one, Nat.add_zero] at hx13_0); have hf13_0 := hfr13 0; (try simp only [show (k27).sz = 9 from rfl, Nat.mul_one, Nat.add_zero] at hf13_0); have hx13_1 := hcc13 1 _ rfl; (try simp only [show (k27).sz = 9 from rfl, Nat.mul_one, Nat.add_zero] at hx13_1); have hf13_1 := hfr13 1; (try simp only [show (k27).sz = 9 from rfl, Nat.mul_one, Nat.add_zero] at hf13_1); have hx13_2 := hcc13 2 _ rfl; (try simp only [show (k27).sz = 9 from rfl, Nat.mul_one, Nat.add_zero] at hx13_2); have hf13_2 := hfr13 2; (try simp only [show (k27).sz = 9 from rfl, Nat.mul_one, Nat.add_zero] at hf13_2); have hx13_3 := hcc13 3 _ rfl; (try simp only [show (k27).sz = 9 from rfl, Nat.mul_one, Nat.add_zero] at hx13_3); have hf13_3 := hfr13 3; (try simp only [show (k27).sz = 9 from rfl, Nat.mul_one, Nat.add_zero] at hf13_3); have hx13_4 := hcc13 4 _ rfl; (try simp only [show (k27).sz = 9 from rfl, Nat.mul_one, Nat.add_zero] at hx13_4); have hf13_4 := hfr13 4; (try simp only [show (k27).sz = 9 from rfl, Nat.mul_one, Nat.add_zero] at hf13_4); have hx13_5 := hcc13 5 _ rfl; (try simp only [show (k27).sz = 9 from rfl, Nat.mul_one, Nat.add_zero] at hx13_5); have hf13_5 := hfr13 5; (try simp only [show (k27).sz = 9 from rfl, Nat.mul_one, Nat.add_zero] at hf13_5); have hx13_6 := hcc13 6 _ rfl; (try simp only [show (k27).sz = 9 from rfl, Nat.mul_one, Nat.add_zero] at hx13_6); have hf13_6 := hfr13 6; (try simp only [show (k27).sz = 9 from rfl, Nat.mul_one, Nat.add_zero] at hf13_6); have hx13_7 := hcc13 7 _ rfl; (try simp only [show (k27).sz = 9 from rfl, Nat.mul_one, Nat.add_zero] at hx13_7); have hf13_7 := hfr13 7; (try simp only [show (k27).sz = 9 from rfl, Nat.mul_one, Nat.add_zero] at hf13_7); have hx13_8 := hcc13 8 _ rfl; (try simp only [show (k27).sz = 9 from rfl, Nat.mul_one, Nat.add_zero] at hx13_8); have hf13_8 := hfr13 8; (try simp only [show (k27).sz = 9 from rfl, Nat.mul_one, Nat.add_zero] at hf13_8); clear hcl13 hcc13 hfr13 hM13) | ((with_reducible refine gate_store (t := 27) (p := 21) rfl ?_); refine store_event (t := 27) (p := 21) (v := ?vo_w14) (w1 := (((((((((w11.setCell ⟨go10, (x4_1 : Int).toNat * 9, none⟩ (.string t878)).setCell ⟨go10, (x4_1 : Int).toNat * 9 + 1, none⟩ (.bool t879)).setCell ⟨go10, (x4_1 : Int).toNat * 9 + 2, none⟩ (.int .i64 t880)).setCell ⟨go10, (x4_1 : Int).toNat * 9 + 3, none⟩ (.int .i64 t881)).setCell ⟨go10, (x4_1 : Int).toNat * 9 + 4, none⟩ (.int .i64 t882)).setCell ⟨go10, (x4_1 : Int).toNat * 9 + 5, none⟩ (.int .i64 t883)).setCell ⟨go10, (x4_1 : Int).toNat * 9 + 6, none⟩ (.int .i64 t884)).setCell ⟨go10, (x4_1 : Int).toNat * 9 + 7, none⟩ (.string t885)).setCell ⟨go10, (x4_1 : Int).toNat * 9 + 8, none⟩ (.slice Ao12 t886.length co12))) ?hg ?ho ?hn ?hr ?_; (case ho => rfl); (case hg => rfl); (case hn => rfl); (case hr => first | (go_simp; done) | (go_simp; rfl)); intro w14 hw; have hg : w11.grownBy w14 (some go10) := (by rw [hw]; exact HP13.2); have hp_ : Kd.R k27 27 w14 w.heap.size (fun _ => True) (.slice (some ⟨go10, 0, none⟩) x3_1.length co10) y889 := (by rw [hw, Ny889.out]; exact HP13.1); clear HP13; have n0_ := Aside0.mk (hp_); have n1_ := Aside0.mk ((by rw [hw]; exact below_set (below_set (below_set (below_set (below_set (below_set (below_set (below_set (below_set (HB.out) GB10.out) GB10.out) GB10.out) GB10.out) GB10.out) GB10.out) GB10.out) GB10.out) GB10.out : Below w.heap.size w w14)); clear HO_3; clear HB; clear HO888; have HO_3 := n0_; have HB := n1_; clear n0_ n1_; clear hg hw hp_))
        go_roundg k1
        case measure => have := HK1.out; omega
        case rel => exact ⟨(y889), (wrap64 (x4_1 + 1)), (by first | rfl | (simp; done) | (simp [*]; done)), H', ⟨by have := HK1.out; omega⟩, ⟨by exact Kd.xR HO_3.out⟩, ⟨by exact bw HB.out⟩⟩
       ·
        rw [if_neg c9] at H
        exact absurd H (by simp)
      ·
       rw [if_neg c7] at H
       exact absurd H (by simp)
     ·
      rw [if_neg c6] at H
      have c6b0 : decide (x4_1 < (l0.length : Int)) = false := decide_eq_false c6
      clear c6
      obtain rfl := Option.some.inj H
      go_wp2
      go_ret
      exact ⟨_, by first | rfl | (simp [errW_none, errW_some] <;> rfl) | (simp [*, errW_none, errW_some] <;> rfl), by exact Kd.xR HO_3.out, by exact bw HB.out⟩
  ·
   rw [if_neg c3] at H
   exact absurd H (by simp)
 ·
  rw [if_neg c2] at H
  exact absurd H (by simp)

end Go.Proofs.Ytongmkdapcgmfaa.P
