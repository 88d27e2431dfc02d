-- Written by a program of this session (wip/tool).
import Derived.Test.YtbbbgochcfccgaaPx0
import Derived.Test.YtbbbgochcfccgaaPx1013
import Derived.Test.YtbbbgochcfccgaaPx1048
namespace Go.Proofs.Ytbbbgochcfccgaa.P
open Go.RowKit Go.Proofs.YtbbbgochcfccgaaW.PrintWords Go.Proofs.YtbbbgochcfccgaaW.PrintLast Go.Proofs.YtbbbgochcfccgaaW.PrintMore
attribute [local go_sem] max2_int min2_int max_two min_two max_three min_three max_four min_four   -- for this text's walks alone
set_option linter.unusedVariables false
set_option linter.unusedSimpArgs false

/-! ### impl_SchemaValid: function 40 -/
mutual
def impl_SchemaValid.l0 : Nat → List (List (S91)) → Int → Int → Option (Bool)
 | 0, _, _, _ => none
 | k + 1, x11, x12, x13 => if x13 < x12 then (if 0 ≤ x13 then (if x13 < (x11.length : Int) then (impl_SchemaValid.l1 k (rd_L6 x11 x13) x11 x12 x13 (rd_L6 x11 x13) ((rd_L6 x11 x13).length : Int) 0) else (none)) else (none)) else (some true)
def impl_SchemaValid.l1 : Nat → List (S91) → List (List (S91)) → Int → Int → List (S91) → Int → Int → Option (Bool)
 | 0, _, _, _, _, _, _, _ => none
 | k + 1, x4, x11, x12, x13, x17, x18, x19 => if x19 < x18 then (if 0 ≤ x19 then (if x19 < (x17.length : Int) then ((impl_NameValid.f k ((rd_T91 x17 x19).f0)).bind fun t295 => (if t295 = true then ((impl_in.f ((rd_T91 x17 x19).f1) 1 3).bind fun t296 => (if t296 = true then (if x19 ≤ (x4.length : Int) then ((impl_kindIn.f k (x4.take (x19 : Int).toNat) ((rd_T91 x17 x19).f0)).bind fun t301 => (if t301 = 0 then (impl_SchemaValid.l1 k x4 x11 x12 x13 x17 x18 (wrap64 (x19 + 1))) else (some false))) else (none)) else (some false))) else (some false))) else (none)) else (none)) else (if (x4.length : Int) > 6 then (some false) else (impl_SchemaValid.l0 k x11 x12 (wrap64 (x13 + 1))))
end
def impl_SchemaValid.f (k : Nat) (l0_0 : List (S91)) (l0_1 : List (S91)) : Option (Bool) := (some (([l0_0, l0_1] : List (List (S91))) : List (List (S91)))).bind fun y289 => (impl_SchemaValid.l0 k y289 (y289.length : Int) 0)
theorem impl_SchemaValid.mono_l : ∀ k, (∀ y0 y1 y2, LeO (impl_SchemaValid.l0 k y0 y1 y2) (impl_SchemaValid.l0 (k + 1) y0 y1 y2)) ∧ (∀ y0 y1 y2 y3 y4 y5 y6, LeO (impl_SchemaValid.l1 k y0 y1 y2 y3 y4 y5 y6) (impl_SchemaValid.l1 (k + 1) y0 y1 y2 y3 y4 y5 y6))
 | 0 => ⟨fun _ _ _ r h => by simp [impl_SchemaValid.l0] at h, fun _ _ _ _ _ _ _ r h => by simp [impl_SchemaValid.l1] at h⟩
 | k + 1 => by
  obtain ⟨ih0, ih1⟩ := impl_SchemaValid.mono_l k
  refine ⟨?_, ?_⟩
  ·
   intro y0 y1 y2
   unfold impl_SchemaValid.l0
   repeat' first
   | (with_reducible exact ih0 _ _ _)
   | (with_reducible exact ih1 _ _ _ _ _ _ _)
   | (with_reducible exact impl_NameValid.mono _ _)
   | (with_reducible exact impl_kindIn.mono _ _ _)
   | (with_reducible exact LeO.refl _)
   | (with_reducible exact LeO.none _)
   | (with_reducible refine LeO.ite ?_ ?_)
   | (with_reducible refine LeO.bind ?_ (fun _ => ?_))
   | exact ih0 _ _ _
   | exact ih1 _ _ _ _ _ _ _
   | exact impl_NameValid.mono _ _
   | exact impl_kindIn.mono _ _ _
   | exact LeO.none _
   | refine LeO.ite ?_ ?_
   | refine LeO.bind ?_ (fun _ => ?_)
  ·
   intro y0 y1 y2 y3 y4 y5 y6
   unfold impl_SchemaValid.l1
   repeat' first
   | (with_reducible exact ih0 _ _ _)
   | (with_reducible exact ih1 _ _ _ _ _ _ _)
   | (with_reducible exact impl_NameValid.mono _ _)
   | (with_reducible exact impl_kindIn.mono _ _ _)
   | (with_reducible exact LeO.refl _)
   | (with_reducible exact LeO.none _)
   | (with_reducible refine LeO.ite ?_ ?_)
   | (with_reducible refine LeO.bind ?_ (fun _ => ?_))
   | exact ih0 _ _ _
   | exact ih1 _ _ _ _ _ _ _
   | exact impl_NameValid.mono _ _
   | exact impl_kindIn.mono _ _ _
   | exact LeO.none _
   | refine LeO.ite ?_ ?_
   | refine LeO.bind ?_ (fun _ => ?_)
theorem impl_SchemaValid.mono : ∀ a0 a1 k, LeO (impl_SchemaValid.f k a0 a1) (impl_SchemaValid.f (k + 1) a0 a1) := by
 intro a0 a1 k
 obtain ⟨ih0, ih1⟩ := impl_SchemaValid.mono_l k
 unfold impl_SchemaValid.f
 repeat' first
   | (with_reducible exact ih0 _ _ _)
   | (with_reducible exact ih1 _ _ _ _ _ _ _)
   | (with_reducible exact impl_NameValid.mono _ _)
   | (with_reducible exact impl_kindIn.mono _ _ _)
   | (with_reducible exact LeO.refl _)
   | (with_reducible exact LeO.none _)
   | (with_reducible refine LeO.ite ?_ ?_)
   | (with_reducible refine LeO.bind ?_ (fun _ => ?_))
   | exact ih0 _ _ _
   | exact ih1 _ _ _ _ _ _ _
   | exact impl_NameValid.mono _ _
   | exact impl_kindIn.mono _ _ _
   | exact LeO.none _
   | refine LeO.ite ?_ ?_
   | refine LeO.bind ?_ (fun _ => ?_)
def impl_SchemaValid.T7 : Bool × List (List Nat × List Nat) := (true, [([], []), ([0], [0]), ([1], [1]), ([2], [2]), ([3, 2], [3]), ([4], [4]), ([5, 4], [4, 5]), ([6, 4, 4], [4, 6]), ([7, 4], [4, 7]), ([4, 8], [4, 8]), ([9, 7], [9]), ([10], [10]), ([10], [10]), ([11, 12, 10], [10, 11, 12]), ([10], [10]), ([14, 10], [10, 14]), ([13, 15, 10, 10], [10, 13, 15]), ([16, 10], [10, 16]), ([10, 17], [10, 17])])
def impl_SchemaValid.B7 : List Nat := [0, 1, 3, 7, 15, 31, 63, 127, 255, 511, 1023, 2047, 2047, 8191, 2047, 18431, 65535, 131071, 262143]
theorem impl_SchemaValid.tab7 : rtab .any (opsOf Try.f40 7) = impl_SchemaValid.T7 := by kernel_rfl
theorem impl_SchemaValid.bits7 : waitsOk impl_SchemaValid.T7.2 impl_SchemaValid.B7 = true := by kernel_rfl
set_option maxHeartbeats 8000000 in
set_option maxRecDepth 100000 in
theorem impl_SchemaValid.calls (k : Nat) (P0_0_ : Nat → Prop) (A0_0 : Option Addr) (c0_0 : Nat) (l0_0 : List (S91)) (P0_1_ : Nat → Prop) (A0_1 : Option Addr) (c0_1 : Nat) (l0_1 : List (S91)) (r : Bool) (w : World) (hs0_0 : Kd.V k91 91 w w.heap.size (fun k_ => P0_0_ k_) (.slice A0_0 l0_0.length c0_0) l0_0) (hs0_1 : Kd.V k91 91 w w.heap.size (fun k_ => P0_1_ k_) (.slice A0_1 l0_1.length c0_1) l0_1) (h : impl_SchemaValid.f k l0_0 l0_1 = some r) :
  Calls Try.prog 40 #[.agg #[.slice A0_0 l0_0.length c0_0, .slice A0_1 l0_1.length c0_1]] w fun e w' => e = .returned (.bool r) ∧ Below w.heap.size w w' := by
 have hu40 := Try.underlying40
 have hu91 := Try.underlying91
 have HO0_0 := Aside0.mk (show Kd.V k91 91 w w.heap.size (fun k_ => ((P0_0_ k_ ∨ P0_1_ k_) ∨ w.heap.size ≤ k_)) (.slice A0_0 l0_0.length c0_0) l0_0 from Kd.V_mono hs0_0 (fun k_ hk => .inl (.inl hk)))
 have HO0_1 := Aside0.mk (show Kd.V k91 91 w w.heap.size (fun k_ => ((P0_0_ k_ ∨ P0_1_ k_) ∨ w.heap.size ≤ k_)) (.slice A0_1 l0_1.length c0_1) l0_1 from Kd.V_mono hs0_1 (fun k_ hk => .inl (.inr hk)))
 have HB := Aside0.mk (Below.refl w.heap.size w)
 have H : ((some (([l0_0, l0_1] : List (List (S91))) : List (List (S91)))).bind fun y289 => (impl_SchemaValid.l0 k y289 (y289.length : Int) 0)) = some r := h
 clear h
 obtain ⟨y289, hy289⟩ : ∃ y_ : List (List (S91)), y_ = (([l0_0, l0_1] : List (List (S91)))) := ⟨_, rfl⟩
 replace H : (impl_SchemaValid.l0 k y289 (y289.length : Int) 0) = some r := by first | (rw [hy289]; with_reducible exact H) | (have H2_ := (Option.bind_some _ _).symm.trans H; rw [hy289]; with_reducible exact H2_) | (have H2_ := (Option.bind_some _ _).symm.trans H; with_reducible exact H2_) | with_reducible exact H | (rw [hy289]; exact H) | exact H
 have Ny289 := Aside0.mk hy289
 clear hy289
 have H' := Aside0.mk H
 clear H
 go_enter Try.func40, Try.ntmps40
 go_wp2_with (first | ((with_reducible refine gate_dst (N := 1) rfl ?_); refine bx 1 #[.slice A0_0 l0_0.length c0_0, .slice A0_1 l0_1.length c0_1] 40 ?_; intro gb288 hg w2 hbox hb; replace HO0_0 := Aside0.mk (Kd.V_below (Kd.V_elderB (by exact Kd.xV HO0_0.out) gb288 (Nat.le_of_eq hg.symm)) hb); replace HO0_1 := Aside0.mk (Kd.V_below (Kd.V_elderB (by exact Kd.xV HO0_1.out) gb288 (Nat.le_of_eq hg.symm)) hb); have BK288 := Aside0.mk (hbox); have GW288 := gwB HB hg; have GE288 := gwB HB hg; replace HB := bS HB hb; clear hb hbox hg; obtain ⟨hcz3_0, hcz3_1⟩ := cs2 BK288.out; obtain ⟨hfz3_0, hfz3_1⟩ := fz2 BK288.out) | ((with_reducible refine gate_dst (N := 11) rfl ?_); refine Kd.N_lit (Kd.slice 91 k91) _ 38 ?hg (N' := 11) ?hd (xs := ([l0_0, l0_1] : List (List (S91)))) (inner := [.slice A0_0 l0_0.length c0_0, .slice A0_1 l0_1.length c0_1]) (ok := (fun k_ => ((P0_0_ k_ ∨ P0_1_ k_) ∨ w.heap.size ≤ k_) ∧ k_ ≠ gb288)) (okp := (fun k_ => ((P0_0_ k_ ∨ P0_1_ k_) ∨ w.heap.size ≤ k_) ∧ k_ ≠ gb288)) ?hr ?hp (fun _ hk => hk) ((show ∀ k_, w2.heap.size ≤ k_ → (fun k_ => ((P0_0_ k_ ∨ P0_1_ k_) ∨ w.heap.size ≤ k_) ∧ k_ ≠ gb288) k_ from fun k_ hk => ⟨(.inr (Nat.le_trans (below_size (by exact bw HB.out)) hk)), Kd.freshB (by exact bk BK288.out) k_ hk⟩) _ (Nat.le_refl _)) (Below.refl _ _) (Nat.le_refl _) (by simp) ?_; (case hd => rfl); (case hg => rfl); (case hr => first | (go_simp; done) | (go_simp; rfl)); (case hp => exact (Reps.one (show Kd.FK (Kd.slice 91 k91) _ _ l0_0 [.slice A0_0 l0_0.length c0_0] from (Kd.FK_slice_mk (Kd.V_reads' (Kd.V_mono (ok' := (fun k_ => ((P0_0_ k_ ∨ P0_1_ k_) ∨ w.heap.size ≤ k_) ∧ k_ ≠ gb288)) (HO0_0.out) (fun k_ hk => okp hk))).2.1 (Kd.V_F (Kd.V_mono (ok' := (fun k_ => ((P0_0_ k_ ∨ P0_1_ k_) ∨ w.heap.size ≤ k_) ∧ k_ ≠ gb288)) (HO0_0.out) (fun k_ hk => okp hk))))) (Reps.one (show Kd.FK (Kd.slice 91 k91) _ _ l0_1 [.slice A0_1 l0_1.length c0_1] from (Kd.FK_slice_mk (Kd.V_reads' (Kd.V_mono (ok' := (fun k_ => ((P0_0_ k_ ∨ P0_1_ k_) ∨ w.heap.size ≤ k_) ∧ k_ ≠ gb288)) (HO0_1.out) (fun k_ hk => okp hk))).2.1 (Kd.V_F (Kd.V_mono (ok' := (fun k_ => ((P0_0_ k_ ∨ P0_1_ k_) ∨ w.heap.size ≤ k_) ∧ k_ ≠ gb288)) (HO0_1.out) (fun k_ hk => okp hk))))) (Reps.none _ _)))); intro v290 w4 ho5 hb hg_ hnew_; clear hg_ hnew_; (first | rw [← Ny289.out] at ho5 | (simp only [Int.reduceToNat] at ho5; rw [← Ny289.out] at ho5)); replace HO0_0 := Aside0.mk (Kd.V_elder' (by exact Kd.xV HO0_0.out) (Kd.N_base ho5) hb); replace HO0_1 := Aside0.mk (Kd.V_elder' (by exact Kd.xV HO0_1.out) (Kd.N_base ho5) hb); have HO291 := Aside0.mk (Kd.N_lower ho5 (below_size (by exact bw HB.out))); replace BK288 := bB BK288 hb; replace HB := bS HB hb; clear hb ho5; obtain ⟨Ao6, co6, eo6⟩ := Kd.N_slice HO291.out; subst eo6))
 go_loopg [13] k (fun kq v13 w' => ∃ (x13_1 : Int), v13 = .int .i64 x13_1 ∧ Aside0 (impl_SchemaValid.l0 kq y289 (y289.length : Int) x13_1 = some r) ∧ Aside0 (kq ≤ k) ∧ Aside0 (Kd.N (Kd.slice 91 k91) 38 w' w.heap.size (fun k_ => ((P0_0_ k_ ∨ P0_1_ k_) ∨ w.heap.size ≤ k_) ∧ k_ ≠ gb288) (.slice Ao6 y289.length co6) y289) ∧ Aside0 (Kd.V k91 91 w' w.heap.size (fun k_ => ((P0_0_ k_ ∨ P0_1_ k_) ∨ w.heap.size ≤ k_) ∧ some k_ ≠ ((.slice Ao6 y289.length co6) : Value).ownBlock ∧ k_ ≠ gb288) (.slice A0_0 l0_0.length c0_0) l0_0) ∧ Aside0 (Kd.V k91 91 w' w.heap.size (fun k_ => ((P0_0_ k_ ∨ P0_1_ k_) ∨ w.heap.size ≤ k_) ∧ some k_ ≠ ((.slice Ao6 y289.length co6) : Value).ownBlock ∧ k_ ≠ gb288) (.slice A0_1 l0_1.length c0_1) l0_1) ∧ Aside0 (w'.heap[gb288]? = some (.cells #[(.slice A0_0 l0_0.length c0_0), (.slice A0_1 l0_1.length c0_1)] 40 (0, 0))) ∧ Aside0 (Below w.heap.size w w'))
 case atStart => exact ⟨(0), (by first | rfl | (simp; done) | (simp [*]; done)), H', ⟨Nat.le_refl _⟩, ⟨by exact Kd.xN HO291.out⟩, ⟨by (with_reducible repeat (first | apply Kd.V_alloc | apply Kd.V_drewN | apply Kd.V_drew)); exact Kd.V_mono HO0_0.out (fun _ hk => okp hk)⟩, ⟨by (with_reducible repeat (first | apply Kd.V_alloc | apply Kd.V_drewN | apply Kd.V_drew)); exact Kd.V_mono HO0_1.out (fun _ hk => okp hk)⟩, ⟨by exact bk BK288.out⟩, ⟨by exact bw HB.out⟩⟩
 case round =>
  clear H'
  try clear p2
  try clear c4
  try clear hcz3_0
  try clear hcz3_1
  try clear hfz3_0
  try clear hfz3_1
  obtain ⟨x13_1, rfl, HA, HK1, HO_11, HO_289000, HO_289001, BK288, HB⟩ := hrel
  cases gk with
  | zero => exact absurd HA.out (by simp [impl_SchemaValid.l0])
  | succ k1 =>
   have H := HA.out
   clear HA
   simp only [impl_SchemaValid.l0] at H
   by_cases c7 : x13_1 < (y289.length : Int)
   ·
    rw [if_pos c7] at H; have c7b0 : decide (x13_1 < (y289.length : Int)) = true := decide_eq_true c7; clear c7
    by_cases c8 : 0 ≤ x13_1
    ·
     rw [if_pos c8] at H; have c8b0 : decide (0 ≤ x13_1) = true := decide_eq_true c8; clear c8
     by_cases c9 : x13_1 < (y289.length : Int)
     ·
      rw [if_pos c9] at H; have c9b0 : decide (x13_1 < (y289.length : Int)) = true := decide_eq_true c9; clear c9
      have H' := Aside0.mk H
      clear H
      have p292 : 0 ≤ (x13_1 : Int) := of_decide_eq_true (by first | (with_reducible assumption) | assumption)
      have q292 : x13_1 < (y289.length : Int) := of_decide_eq_true (by first | (with_reducible assumption) | assumption)
      obtain ⟨ad292, A292_0, c292_0, e292, hx292_0, hl292_0, hi292_0⟩ := at_L6 (Kd.N_reads' HO_11.out).2.2 x13_1 p292 q292
      cases e292
      obtain ⟨ce292, hce292, hMe292, hcc292⟩ := Kd.N_get HO_11.out [] x13_1 p292 (by first | exact q292 | exact of_decide_eq_true (by first | (with_reducible assumption) | assumption) | (have e_ := (Kd.N_reads' HO_11.out).1; omega))
      obtain ⟨ua292_0, uc292_0, rfl, ul292_0, ge292_0⟩ := Kd.FK_slice_open hMe292
      have hv292_0 := hcc292 0 _ rfl
      rw [Nat.add_zero, show ((Kd.slice 91 k91)).sz = 1 from rfl, Nat.mul_one] at hv292_0
      replace hv292_0 := Option.some.inj (hv292_0.symm.trans hx292_0)
      injection hv292_0 with hva_ hvn_ hvc_
      rw [hva_] at ge292_0
      rw [hvc_] at ul292_0
      have HL292_0 := Aside0.mk (show Kd.V k91 91 _ w.heap.size _ _ (rd_L6 y289 x13_1) from Kd.V_mk ul292_0 ge292_0)
      clear hva_ hvn_ hvc_ ge292_0 ul292_0
      clear hcc292 hce292
      have HR292_0 := Aside0.mk hi292_0
      have HC292_0 := Aside0.mk hl292_0
      clear hi292_0 hl292_0
      replace p292 := eq_true p292
      replace q292 := eq_true q292
      go_wp2
      go_loopg [19] k1 (fun kq v19 w' => ∃ (x19_2 : Int), v19 = .int .i64 x19_2 ∧ Aside0 (impl_SchemaValid.l1 kq (rd_L6 y289 x13_1) y289 (y289.length : Int) x13_1 (rd_L6 y289 x13_1) ((rd_L6 y289 x13_1).length : Int) x19_2 = some r) ∧ Aside0 (kq ≤ k1) ∧ Aside0 (Kd.N (Kd.slice 91 k91) 38 w' w.heap.size (fun k_ => ((P0_0_ k_ ∨ P0_1_ k_) ∨ w.heap.size ≤ k_) ∧ k_ ≠ gb288) (.slice (some ad292) y289.length co6) y289) ∧ Aside0 (Kd.V k91 91 w' w.heap.size (fun k_ => ((P0_0_ k_ ∨ P0_1_ k_) ∨ w.heap.size ≤ k_) ∧ some k_ ≠ ((.slice (some ad292) y289.length co6) : Value).ownBlock ∧ k_ ≠ gb288) (.slice A0_0 l0_0.length c0_0) l0_0) ∧ Aside0 (Kd.V k91 91 w' w.heap.size (fun k_ => ((P0_0_ k_ ∨ P0_1_ k_) ∨ w.heap.size ≤ k_) ∧ some k_ ≠ ((.slice (some ad292) y289.length co6) : Value).ownBlock ∧ k_ ≠ gb288) (.slice A0_1 l0_1.length c0_1) l0_1) ∧ Aside0 (w'.heap[gb288]? = some (.cells #[(.slice A0_0 l0_0.length c0_0), (.slice A0_1 l0_1.length c0_1)] 40 (0, 0))) ∧ Aside0 (Kd.C k91 w' A292_0 (rd_L6 y289 x13_1).length (rd_L6 y289 x13_1)) ∧ Aside0 (Below w.heap.size w w'))
      case atStart => exact ⟨(0), (by first | rfl | (simp; done) | (simp [*]; done)), H', ⟨Nat.le_refl _⟩, ⟨by exact Kd.xN HO_11.out⟩, ⟨by exact Kd.xV HO_289000.out⟩, ⟨by exact Kd.xV HO_289001.out⟩, ⟨by exact bk BK288.out⟩, ⟨by repeat (first | (with_reducible exact HR292_0.out) | (with_reducible refine Kd.C_alloc ?_ _) | (with_reducible refine Kd.C_drewN ?_ _) | (with_reducible refine Kd.C_drew ?_) | exact HR292_0.out)⟩, ⟨by exact bw HB.out⟩⟩
      case round =>
       clear H'
       try clear c2
       try clear p2
       try clear q2
       try clear hx2
       try clear c4
       try clear c7
       try clear c7b0
       try clear c8
       try clear c8b0
       try clear c9
       try clear c9b0
       try clear hcz3_0
       try clear hcz3_1
       try clear hfz3_0
       try clear hfz3_1
       try clear hx292_0
       try clear p2
       try clear p292
       try clear q292
       obtain ⟨x19_2, rfl, HA, HK2, HO_11, HO_289000, HO_289001, BK288, HR292_0, HB⟩ := hrel
       cases gk with
       | zero => exact absurd HA.out (by simp [impl_SchemaValid.l1])
       | succ k2 =>
        have H := HA.out
        clear HA
        simp only [impl_SchemaValid.l1] at H
        by_cases c10 : x19_2 < ((rd_L6 y289 x13_1).length : Int)
        ·
         rw [if_pos c10] at H; have c10b0 : decide (x19_2 < ((rd_L6 y289 x13_1).length : Int)) = true := decide_eq_true c10; clear c10
         by_cases c11 : 0 ≤ x19_2
         ·
          rw [if_pos c11] at H; have c11b0 : decide (0 ≤ x19_2) = true := decide_eq_true c11; clear c11
          by_cases c12 : x19_2 < ((rd_L6 y289 x13_1).length : Int)
          ·
           rw [if_pos c12] at H; have c12b0 : decide (x19_2 < ((rd_L6 y289 x13_1).length : Int)) = true := decide_eq_true c12; clear c12
           replace H := Option.bind_eq_some_iff.mp H
           obtain ⟨t295, A130, H⟩ := H
           replace H : (if t295 = true then ((impl_in.f ((rd_T91 (rd_L6 y289 x13_1) x19_2).f1) 1 3).bind fun t296 => (if t296 = true then (if x19_2 ≤ ((rd_L6 y289 x13_1).length : Int) then ((impl_kindIn.f k2 ((rd_L6 y289 x13_1).take (x19_2 : Int).toNat) ((rd_T91 (rd_L6 y289 x13_1) x19_2).f0)).bind fun t301 => (if t301 = 0 then (impl_SchemaValid.l1 k2 (rd_L6 y289 x13_1) y289 (y289.length : Int) x13_1 (rd_L6 y289 x13_1) ((rd_L6 y289 x13_1).length : Int) (wrap64 (x19_2 + 1))) else (some false))) else (none)) else (some false))) else (some false)) = some r := H
           have A13 := Aside0.mk A130
           clear A130
           by_cases c14 : t295 = true
           ·
            subst c14
            have H1 : ((impl_in.f ((rd_T91 (rd_L6 y289 x13_1) x19_2).f1) 1 3).bind fun t296 => (if t296 = true then (if x19_2 ≤ ((rd_L6 y289 x13_1).length : Int) then ((impl_kindIn.f k2 ((rd_L6 y289 x13_1).take (x19_2 : Int).toNat) ((rd_T91 (rd_L6 y289 x13_1) x19_2).f0)).bind fun t301 => (if t301 = 0 then (impl_SchemaValid.l1 k2 (rd_L6 y289 x13_1) y289 (y289.length : Int) x13_1 (rd_L6 y289 x13_1) ((rd_L6 y289 x13_1).length : Int) (wrap64 (x19_2 + 1))) else (some false))) else (none)) else (some false))) = some r := by rw [if_pos rfl] at H; exact H
            clear H
            have H := H1
            clear H1
            replace H := Option.bind_eq_some_iff.mp H
            obtain ⟨t296, A150, H⟩ := H
            replace H : (if t296 = true then (if x19_2 ≤ ((rd_L6 y289 x13_1).length : Int) then ((impl_kindIn.f k2 ((rd_L6 y289 x13_1).take (x19_2 : Int).toNat) ((rd_T91 (rd_L6 y289 x13_1) x19_2).f0)).bind fun t301 => (if t301 = 0 then (impl_SchemaValid.l1 k2 (rd_L6 y289 x13_1) y289 (y289.length : Int) x13_1 (rd_L6 y289 x13_1) ((rd_L6 y289 x13_1).length : Int) (wrap64 (x19_2 + 1))) else (some false))) else (none)) else (some false)) = some r := H
            have A15 := Aside0.mk A150
            clear A150
            by_cases c16 : t296 = true
            ·
             subst c16
             have H1 : (if x19_2 ≤ ((rd_L6 y289 x13_1).length : Int) then ((impl_kindIn.f k2 ((rd_L6 y289 x13_1).take (x19_2 : Int).toNat) ((rd_T91 (rd_L6 y289 x13_1) x19_2).f0)).bind fun t301 => (if t301 = 0 then (impl_SchemaValid.l1 k2 (rd_L6 y289 x13_1) y289 (y289.length : Int) x13_1 (rd_L6 y289 x13_1) ((rd_L6 y289 x13_1).length : Int) (wrap64 (x19_2 + 1))) else (some false))) else (none)) = some r := by rw [if_pos rfl] at H; exact H
             clear H
             have H := H1
             clear H1
             have c17b0 := eq_true (of_decide_eq_true (by first | (with_reducible assumption) | assumption) : 0 ≤ x19_2)
             by_cases c18 : x19_2 ≤ ((rd_L6 y289 x13_1).length : Int)
             ·
              rw [if_pos c18] at H; have c18b0 := eq_true c18
              have c18b1 : decide (x19_2 ≤ ((rd_L6 y289 x13_1).length : Int)) = true := decide_eq_true c18
              clear c18
              obtain ⟨y297, hy297⟩ : ∃ y_ : List (S91), y_ = ((rd_L6 y289 x13_1).take (x19_2 : Int).toNat) := ⟨_, rfl⟩
              replace H : ((impl_kindIn.f k2 y297 ((rd_T91 (rd_L6 y289 x13_1) x19_2).f0)).bind fun t301 => (if t301 = 0 then (impl_SchemaValid.l1 k2 (rd_L6 y289 x13_1) y289 (y289.length : Int) x13_1 (rd_L6 y289 x13_1) ((rd_L6 y289 x13_1).length : Int) (wrap64 (x19_2 + 1))) else (some false))) = some r := by first | (rw [hy297]; with_reducible exact H) | (have H2_ := (Option.bind_some _ _).symm.trans H; rw [hy297]; with_reducible exact H2_) | (have H2_ := (Option.bind_some _ _).symm.trans H; with_reducible exact H2_) | with_reducible exact H | (rw [hy297]; exact H) | exact H
              have Ny297 := Aside0.mk hy297
              clear hy297
              replace H := Option.bind_eq_some_iff.mp H
              obtain ⟨t301, A190, H⟩ := H
              replace H : (if t301 = 0 then (impl_SchemaValid.l1 k2 (rd_L6 y289 x13_1) y289 (y289.length : Int) x13_1 (rd_L6 y289 x13_1) ((rd_L6 y289 x13_1).length : Int) (wrap64 (x19_2 + 1))) else (some false)) = some r := H
              have A19 := Aside0.mk A190
              clear A190
              by_cases c20 : t301 = 0
              ·
               rw [if_pos c20] at H; obtain ⟨c20b0, c20b1⟩ := eqY c20; clear c20
               have H' := Aside0.mk H
               clear H
               have p293 : 0 ≤ (x19_2 : Int) := of_decide_eq_true (by first | (with_reducible assumption) | assumption)
               have q293 : x19_2 < ((rd_L6 y289 x13_1).length : Int) := of_decide_eq_true (by first | (with_reducible assumption) | assumption)
               obtain ⟨ad293, e293, hx293_0, hx293_1⟩ := at_T91 HR292_0.out x19_2 p293 q293
               cases e293
               first | replace hx293_0 := (HB.out.cell (World.block_lt_of_cell? w _ hx293_0)).trans hx293_0 | skip
               first | replace hx293_1 := (HB.out.cell (World.block_lt_of_cell? w _ hx293_1)).trans hx293_1 | skip
               replace p293 := eq_true p293
               replace q293 := eq_true q293
               try go_wp2_with (first | ((with_reducible refine gate_dst (N := 6) rfl ?_); refine bx 6 #[.string (⟨#[]⟩ : ByteArray), .int .i64 0] 91 ?_; intro gb294 hg w21 hbox hb; replace HO_11 := Aside0.mk (Kd.N_below (Kd.N_elderB (by exact Kd.xN HO_11.out) gb294 (Nat.le_of_eq hg.symm)) hb); replace HO_289000 := Aside0.mk (Kd.V_below (Kd.V_elderB (by exact Kd.xV HO_289000.out) gb294 (Nat.le_of_eq hg.symm)) hb); replace HO_289001 := Aside0.mk (Kd.V_below (Kd.V_elderB (by exact Kd.xV HO_289001.out) gb294 (Nat.le_of_eq hg.symm)) hb); have SB294_HR292_0 := Aside0.mk ((⟨_, by repeat (first | (with_reducible exact HR292_0.out) | (with_reducible refine Kd.C_alloc ?_ _) | (with_reducible refine Kd.C_drewN ?_ _) | (with_reducible refine Kd.C_drew ?_) | exact HR292_0.out), Nat.le_of_eq hg.symm, hb⟩ : ∃ W0_ : World, Kd.C k91 W0_ (some ad293) (rd_L6 y289 x13_1).length (rd_L6 y289 x13_1) ∧ W0_.heap.size ≤ gb294 ∧ Below W0_.heap.size W0_ w21)); replace HR292_0 := Aside0.mk (Kd.C_below (by repeat (first | (with_reducible exact HR292_0.out) | (with_reducible refine Kd.C_alloc ?_ _) | (with_reducible refine Kd.C_drewN ?_ _) | (with_reducible refine Kd.C_drew ?_) | exact HR292_0.out)) hb); have BK294 := Aside0.mk (hbox); have GW294 := gwB HB hg; have GE294 := gwB HB hg; replace HB := bS HB hb; have NB288_294 := nbL BK288 hg; have NB294_288 := nbR BK288 hg; replace BK288 := bB BK288 hb; clear hb hbox hg; have hnb22 := NB294_288.out; have hnc22 := NB288_294.out; obtain ⟨hcz23_0, hcz23_1⟩ := cs2 BK294.out; obtain ⟨hfz23_0, hfz23_1⟩ := fz2 BK294.out))
               have n0_ : Aside0 (Kd.N (Kd.slice 91 k91) 38 ((w21.setCell ⟨gb294, 0, none⟩ (.string ((rd_T91 (rd_L6 y289 x13_1) x19_2).f0))).setCell ⟨gb294, 1, none⟩ (.int .i64 ((rd_T91 (rd_L6 y289 x13_1) x19_2).f1))) w.heap.size (fun k_ => ((P0_0_ k_ ∨ P0_1_ k_) ∨ w.heap.size ≤ k_) ∧ k_ ≠ gb288 ∧ k_ ≠ gb294) (.slice (some ad292) y289.length co6) y289) := ⟨by (with_reducible repeat (first | apply Kd.N_alloc | apply Kd.N_drewN | apply Kd.N_drew)); exact Kd.N_mono (Kd.N_far (p := ⟨gb294, 1, none⟩) (Kd.N_far (p := ⟨gb294, 0, none⟩) (Kd.N_mono HO_11.out (fun k_ hk => (⟨hk, okp hk⟩ : _ ∧ k_ ≠ gb294))) (fun _ hk => hk.2) (.string ((rd_T91 (rd_L6 y289 x13_1) x19_2).f0))) (fun _ hk => hk.2) (.int .i64 ((rd_T91 (rd_L6 y289 x13_1) x19_2).f1))) (fun _ hk => okp hk)⟩
               have n1_ : Aside0 (Kd.V k91 91 ((w21.setCell ⟨gb294, 0, none⟩ (.string ((rd_T91 (rd_L6 y289 x13_1) x19_2).f0))).setCell ⟨gb294, 1, none⟩ (.int .i64 ((rd_T91 (rd_L6 y289 x13_1) x19_2).f1))) w.heap.size (fun k_ => ((P0_0_ k_ ∨ P0_1_ k_) ∨ w.heap.size ≤ k_) ∧ some k_ ≠ (.slice (some ad292) y289.length co6 : Value).ownBlock ∧ k_ ≠ gb288 ∧ k_ ≠ gb294) (.slice A0_0 l0_0.length c0_0) l0_0) := ⟨by (with_reducible repeat (first | apply Kd.V_alloc | apply Kd.V_drewN | apply Kd.V_drew)); exact Kd.V_mono (Kd.V_far (p := ⟨gb294, 1, none⟩) (Kd.V_far (p := ⟨gb294, 0, none⟩) (Kd.V_mono HO_289000.out (fun k_ hk => (⟨hk, okp hk⟩ : _ ∧ k_ ≠ gb294))) (fun _ hk => hk.2) (.string ((rd_T91 (rd_L6 y289 x13_1) x19_2).f0))) (fun _ hk => hk.2) (.int .i64 ((rd_T91 (rd_L6 y289 x13_1) x19_2).f1))) (fun _ hk => okp hk)⟩
               have n2_ : Aside0 (Kd.V k91 91 ((w21.setCell ⟨gb294, 0, none⟩ (.string ((rd_T91 (rd_L6 y289 x13_1) x19_2).f0))).setCell ⟨gb294, 1, none⟩ (.int .i64 ((rd_T91 (rd_L6 y289 x13_1) x19_2).f1))) w.heap.size (fun k_ => ((P0_0_ k_ ∨ P0_1_ k_) ∨ w.heap.size ≤ k_) ∧ some k_ ≠ (.slice (some ad292) y289.length co6 : Value).ownBlock ∧ k_ ≠ gb288 ∧ k_ ≠ gb294) (.slice A0_1 l0_1.length c0_1) l0_1) := ⟨by (with_reducible repeat (first | apply Kd.V_alloc | apply Kd.V_drewN | apply Kd.V_drew)); exact Kd.V_mono (Kd.V_far (p := ⟨gb294, 1, none⟩) (Kd.V_far (p := ⟨gb294, 0, none⟩) (Kd.V_mono HO_289001.out (fun k_ hk => (⟨hk, okp hk⟩ : _ ∧ k_ ≠ gb294))) (fun _ hk => hk.2) (.string ((rd_T91 (rd_L6 y289 x13_1) x19_2).f0))) (fun _ hk => hk.2) (.int .i64 ((rd_T91 (rd_L6 y289 x13_1) x19_2).f1))) (fun _ hk => okp hk)⟩
               have n3_ : Aside0 (((w21.setCell ⟨gb294, 0, none⟩ (.string ((rd_T91 (rd_L6 y289 x13_1) x19_2).f0))).setCell ⟨gb294, 1, none⟩ (.int .i64 ((rd_T91 (rd_L6 y289 x13_1) x19_2).f1))).heap[gb288]? = some (.cells #[.slice A0_0 l0_0.length c0_0, .slice A0_1 l0_1.length c0_1] 40 (0, 0))) := ⟨by (with_reducible repeat (first | refine blk_drewN ?_ _ | refine blk_drew ?_ | refine blk_alloc ?_ _)); refine blk_far ?_ NB288_294.out _; (with_reducible repeat (first | refine blk_drewN ?_ _ | refine blk_drew ?_ | refine blk_alloc ?_ _)); refine blk_far ?_ NB288_294.out _; exact bk BK288.out⟩
               have n4_ : Aside0 (((w21.setCell ⟨gb294, 0, none⟩ (.string ((rd_T91 (rd_L6 y289 x13_1) x19_2).f0))).setCell ⟨gb294, 1, none⟩ (.int .i64 ((rd_T91 (rd_L6 y289 x13_1) x19_2).f1))).heap[gb294]? = some (.cells #[.string ((rd_T91 (rd_L6 y289 x13_1) x19_2).f0), .int .i64 ((rd_T91 (rd_L6 y289 x13_1) x19_2).f1)] 91 (0, 0))) := ⟨by (with_reducible repeat (first | refine blk_drewN ?_ _ | refine blk_drew ?_ | refine blk_alloc ?_ _)); refine blk_put (cs := #[.string ((rd_T91 (rd_L6 y289 x13_1) x19_2).f0), .int .i64 0]) ?_ 1 _ rfl; (with_reducible repeat (first | refine blk_drewN ?_ _ | refine blk_drew ?_ | refine blk_alloc ?_ _)); refine blk_put (cs := #[.string (⟨#[]⟩ : ByteArray), .int .i64 0]) ?_ 0 _ rfl; exact bk BK294.out⟩
               have n5_ : Aside0 (Below w.heap.size w ((w21.setCell ⟨gb294, 0, none⟩ (.string ((rd_T91 (rd_L6 y289 x13_1) x19_2).f0))).setCell ⟨gb294, 1, none⟩ (.int .i64 ((rd_T91 (rd_L6 y289 x13_1) x19_2).f1)))) := ⟨by exact bw HB.out⟩
               have n6_ : Aside0 (Kd.C k91 ((w21.setCell ⟨gb294, 0, none⟩ (.string ((rd_T91 (rd_L6 y289 x13_1) x19_2).f0))).setCell ⟨gb294, 1, none⟩ (.int .i64 ((rd_T91 (rd_L6 y289 x13_1) x19_2).f1))) (some ad293) (rd_L6 y289 x13_1).length (rd_L6 y289 x13_1)) := ⟨(let ⟨W0_, h1_, h2_, h3_⟩ := SB294_HR292_0.out; Kd.C_below h1_ (by repeat (first | exact h3_ | refine below_set ?_ (Nat.le_trans h2_ (by first | exact Nat.le_refl _ | exact Nat.le_of_eq rfl)))))⟩
               (try clear HO_11)
               (try clear HO_289000)
               (try clear HO_289001)
               (try clear BK288)
               (try clear BK294)
               (try clear HB)
               (try clear HR292_0)
               generalize ((w21.setCell ⟨gb294, 0, none⟩ (.string ((rd_T91 (rd_L6 y289 x13_1) x19_2).f0))).setCell ⟨gb294, 1, none⟩ (.int .i64 ((rd_T91 (rd_L6 y289 x13_1) x19_2).f1))) = w24 at n0_ n1_ n2_ n3_ n4_ n5_ n6_ ⊢
               have HO_11 := n0_
               have HO_289000 := n1_
               have HO_289001 := n2_
               have BK288 := n3_
               have BK294 := n4_
               have HB := n5_
               have HR292_0 := n6_
               clear n0_ n1_ n2_ n3_ n4_ n5_ n6_
               replace HO_11 := Aside0.mk (Kd.N_drew HO_11.out)
               replace HO_289000 := Aside0.mk (Kd.V_drew HO_289000.out)
               replace HO_289001 := Aside0.mk (Kd.V_drew HO_289001.out)
               replace BK288 := Aside0.mk (blk_drew BK288.out)
               replace BK294 := Aside0.mk (blk_drew BK294.out)
               replace HR292_0 := Aside0.mk (Kd.C_drew HR292_0.out)
               replace HB := Aside0.mk (below_drew1 HB.out)
               refine start_ (n := 19) (S := fun w' => w'.cell? ⟨gb294, 0, none⟩ = some (.string ((rd_T91 (rd_L6 y289 x13_1) x19_2).f0)) ∧ w'.cell? ⟨gb294, 1, none⟩ = some (.int .i64 ((rd_T91 (rd_L6 y289 x13_1) x19_2).f1))) (ds := []) (mB 19 0) (by kernel_rfl) rfl rfl (cs2 BK294.out) (fun hHeld => ?_); refine with_tabW impl_SchemaValid.tab7 impl_SchemaValid.bits7 (fun HT_ HW_ => ?_)
               generalize w24.drew = w25 at HO_11 HO_289000 HO_289001 BK288 BK294 HR292_0 HB hHeld ⊢
               refine pn 0 24 HT_.out ?_
               refine tk 1 25 HT_.out HW_.out hHeld ?_
               refine on 2 26 HT_.out (fun K hK => ?_)
               refine gs Try.func68 #[.string ((rd_T91 (rd_L6 y289 x13_1) x19_2).f0)] ?_
               with_reducible refine (impl_NameValid.calls k2 ((rd_T91 (rd_L6 y289 x13_1) x19_2).f0) true _ A13.out).mono ?_
               rintro e w' ⟨rfl, ⟨nd, rfl⟩⟩
               refine ⟨_, rfl, ?_⟩
               refine hK.out _ _ (cs2 BK294.out) (fun hHeld => ?_)
               clear hK K
               refine nm (some 26) ?_
               refine pn 3 27 HT_.out ?_
               refine pn 4 28 HT_.out ?_
               refine pn 5 29 HT_.out ?_
               refine tk 6 30 HT_.out HW_.out hHeld ?_
               refine on 7 31 HT_.out (fun K hK => ?_)
               refine gs Try.func48 #[.int .i64 ((rd_T91 (rd_L6 y289 x13_1) x19_2).f1), .int .i64 1, .int .i64 3] ?_
               with_reducible refine (impl_in.calls ((rd_T91 (rd_L6 y289 x13_1) x19_2).f1) 1 3 true _ A15.out).mono ?_
               rintro e w' ⟨rfl, ⟨nd, rfl⟩⟩
               refine ⟨_, rfl, ?_⟩
               have q26 : (x19_2 : Int) ≤ (((rd_L6 y289 x13_1).length : Int) : Int) := of_decide_eq_true (by first | (with_reducible assumption) | assumption)
               obtain ⟨i026, hi026, _, hsz26, _⟩ := info_parts info91
               have hroom26 : (rd_L6 y289 x13_1).length ≤ c292_0 := HC292_0.out
               have hC26 : Kd.C k91 _ (some ad293) (rd_L6 y289 x13_1).length (rd_L6 y289 x13_1) := HR292_0.out
               have hcut26 := cut_to (P := Try.prog) 38 91 .i64 Try.underlying38 hi026 (some ad293) (rd_L6 y289 x13_1).length c292_0 x19_2 (of_decide_eq_true (by first | (with_reducible assumption) | assumption)) q26 hroom26
               have hr26 := Kd.C_take (m := (x19_2 : Int).toNat) hC26 (by omega)
               have hy26 : y297.length = (x19_2 : Int).toNat := (by rw [Ny297.out, List.length_take]; omega)
               rw [← Ny297.out] at hr26
               rw [← hy26] at hcut26
               have HR300 := Aside0.mk hr26
               have HC300 := Aside0.mk (show y297.length ≤ c292_0 from by omega)
               clear hr26 hC26 hroom26 hi026 hsz26
               have KY26 := Aside0.mk hy26
               clear hy26
               replace q26 := eq_true q26
               refine hK.out _ _ (cs2 BK294.out) (fun hHeld => ?_)
               clear hK K
               refine nm (some 31) ?_
               refine pn 8 32 HT_.out ?_
               refine pn 9 33 HT_.out ?_
               refine pn 10 34 HT_.out ?_
               refine pn 11 35 HT_.out ?_
               refine pn 12 36 HT_.out ?_
               refine pn 13 37 HT_.out ?_
               refine pn 14 38 HT_.out ?_
               refine tk 15 39 HT_.out HW_.out hHeld ?_
               refine on 16 40 HT_.out (fun K hK => ?_)
               refine gs Try.func69 #[.slice (some ad293) y297.length c292_0, .string ((rd_T91 (rd_L6 y289 x13_1) x19_2).f0)] ?_
               with_reducible refine (impl_kindIn.calls k2 _ _ y297 ((rd_T91 (rd_L6 y289 x13_1) x19_2).f0) t301 _ ?side1 ?side2 A19.out).mono ?_
               (case side1 => repeat (first | exact (Kd.C_below HR300.out (by exact bw HB.out)) | exact HR300.out | (with_reducible refine Kd.C_alloc ?_ _) | (with_reducible refine Kd.C_drewN ?_ _) | (with_reducible refine Kd.C_drew ?_)))
               (case side2 => exact HC300.out)
               rintro e w27 ⟨rfl, hb⟩
               refine ⟨_, rfl, ?_⟩
               replace HO_11 := Aside0.mk (Kd.N_below (by exact Kd.xN HO_11.out) hb)
               replace HO_289000 := Aside0.mk (Kd.V_below (by exact Kd.xV HO_289000.out) hb)
               replace HO_289001 := Aside0.mk (Kd.V_below (by exact Kd.xV HO_289001.out) hb)
               replace BK288 := bB BK288 hb
               replace HR292_0 := Aside0.mk (Kd.C_below (by repeat (first | (with_reducible exact HR292_0.out) | (with_reducible refine Kd.C_alloc ?_ _) | (with_reducible refine Kd.C_drewN ?_ _) | (with_reducible refine Kd.C_drew ?_) | exact HR292_0.out)) hb)
               replace BK294 := bB BK294 hb
               replace HB := bS HB hb
               (try clear hb)
               (try clear hb2)
               (try clear hk)
               (try clear hi)
               refine hK.out _ _ (cs2 BK294.out) (fun hHeld => ?_)
               clear hK K
               refine nm (some 40) ?_
               refine pn 17 41 HT_.out ?_
               refine pn 18 42 HT_.out ?_
               refine done_ (done_of HT_.out (by kernel_rfl)) ?_
               try go_wp2
               go_roundg k2
               case measure => have := HK1.out; have := HK2.out; omega
               case rel => exact ⟨(wrap64 (x19_2 + 1)), (by first | rfl | (simp; done) | (simp [*]; done)), H', ⟨by have := HK1.out; have := HK2.out; omega⟩, ⟨by (with_reducible repeat (first | apply Kd.N_alloc | apply Kd.N_drewN | apply Kd.N_drew)); exact Kd.N_mono HO_11.out (fun _ hk => okp hk)⟩, ⟨by (with_reducible repeat (first | apply Kd.V_alloc | apply Kd.V_drewN | apply Kd.V_drew)); exact Kd.V_mono HO_289000.out (fun _ hk => okp hk)⟩, ⟨by (with_reducible repeat (first | apply Kd.V_alloc | apply Kd.V_drewN | apply Kd.V_drew)); exact Kd.V_mono HO_289001.out (fun _ hk => okp hk)⟩, ⟨by exact bk BK288.out⟩, ⟨by repeat (first | (with_reducible exact HR292_0.out) | (with_reducible refine Kd.C_alloc ?_ _) | (with_reducible refine Kd.C_drewN ?_ _) | (with_reducible refine Kd.C_drew ?_) | exact HR292_0.out)⟩, ⟨by exact bw HB.out⟩⟩
              ·
               rw [if_neg c20] at H; obtain ⟨c20b0, c20b1⟩ := eqN c20
               obtain rfl := Option.some.inj H
               have p293 : 0 ≤ (x19_2 : Int) := of_decide_eq_true (by first | (with_reducible assumption) | assumption)
               have q293 : x19_2 < ((rd_L6 y289 x13_1).length : Int) := of_decide_eq_true (by first | (with_reducible assumption) | assumption)
               obtain ⟨ad293, e293, hx293_0, hx293_1⟩ := at_T91 HR292_0.out x19_2 p293 q293
               cases e293
               first | replace hx293_0 := (HB.out.cell (World.block_lt_of_cell? w _ hx293_0)).trans hx293_0 | skip
               first | replace hx293_1 := (HB.out.cell (World.block_lt_of_cell? w _ hx293_1)).trans hx293_1 | skip
               replace p293 := eq_true p293
               replace q293 := eq_true q293
               try go_wp2_with (first | ((with_reducible refine gate_dst (N := 6) rfl ?_); refine bx 6 #[.string (⟨#[]⟩ : ByteArray), .int .i64 0] 91 ?_; intro gb294 hg w28 hbox hb; replace HO_11 := Aside0.mk (Kd.N_below (Kd.N_elderB (by exact Kd.xN HO_11.out) gb294 (Nat.le_of_eq hg.symm)) hb); replace HO_289000 := Aside0.mk (Kd.V_below (Kd.V_elderB (by exact Kd.xV HO_289000.out) gb294 (Nat.le_of_eq hg.symm)) hb); replace HO_289001 := Aside0.mk (Kd.V_below (Kd.V_elderB (by exact Kd.xV HO_289001.out) gb294 (Nat.le_of_eq hg.symm)) hb); have SB294_HR292_0 := Aside0.mk ((⟨_, by repeat (first | (with_reducible exact HR292_0.out) | (with_reducible refine Kd.C_alloc ?_ _) | (with_reducible refine Kd.C_drewN ?_ _) | (with_reducible refine Kd.C_drew ?_) | exact HR292_0.out), Nat.le_of_eq hg.symm, hb⟩ : ∃ W0_ : World, Kd.C k91 W0_ (some ad293) (rd_L6 y289 x13_1).length (rd_L6 y289 x13_1) ∧ W0_.heap.size ≤ gb294 ∧ Below W0_.heap.size W0_ w28)); replace HR292_0 := Aside0.mk (Kd.C_below (by repeat (first | (with_reducible exact HR292_0.out) | (with_reducible refine Kd.C_alloc ?_ _) | (with_reducible refine Kd.C_drewN ?_ _) | (with_reducible refine Kd.C_drew ?_) | exact HR292_0.out)) hb); have BK294 := Aside0.mk (hbox); have GW294 := gwB HB hg; have GE294 := gwB HB hg; replace HB := bS HB hb; have NB288_294 := nbL BK288 hg; have NB294_288 := nbR BK288 hg; replace BK288 := bB BK288 hb; clear hb hbox hg; have hnb29 := NB294_288.out; have hnc29 := NB288_294.out; obtain ⟨hcz30_0, hcz30_1⟩ := cs2 BK294.out; obtain ⟨hfz30_0, hfz30_1⟩ := fz2 BK294.out))
               have n0_ : Aside0 (Kd.N (Kd.slice 91 k91) 38 ((w28.setCell ⟨gb294, 0, none⟩ (.string ((rd_T91 (rd_L6 y289 x13_1) x19_2).f0))).setCell ⟨gb294, 1, none⟩ (.int .i64 ((rd_T91 (rd_L6 y289 x13_1) x19_2).f1))) w.heap.size (fun k_ => ((P0_0_ k_ ∨ P0_1_ k_) ∨ w.heap.size ≤ k_) ∧ k_ ≠ gb288 ∧ k_ ≠ gb294) (.slice (some ad292) y289.length co6) y289) := ⟨by (with_reducible repeat (first | apply Kd.N_alloc | apply Kd.N_drewN | apply Kd.N_drew)); exact Kd.N_mono (Kd.N_far (p := ⟨gb294, 1, none⟩) (Kd.N_far (p := ⟨gb294, 0, none⟩) (Kd.N_mono HO_11.out (fun k_ hk => (⟨hk, okp hk⟩ : _ ∧ k_ ≠ gb294))) (fun _ hk => hk.2) (.string ((rd_T91 (rd_L6 y289 x13_1) x19_2).f0))) (fun _ hk => hk.2) (.int .i64 ((rd_T91 (rd_L6 y289 x13_1) x19_2).f1))) (fun _ hk => okp hk)⟩
               have n1_ : Aside0 (Kd.V k91 91 ((w28.setCell ⟨gb294, 0, none⟩ (.string ((rd_T91 (rd_L6 y289 x13_1) x19_2).f0))).setCell ⟨gb294, 1, none⟩ (.int .i64 ((rd_T91 (rd_L6 y289 x13_1) x19_2).f1))) w.heap.size (fun k_ => ((P0_0_ k_ ∨ P0_1_ k_) ∨ w.heap.size ≤ k_) ∧ some k_ ≠ (.slice (some ad292) y289.length co6 : Value).ownBlock ∧ k_ ≠ gb288 ∧ k_ ≠ gb294) (.slice A0_0 l0_0.length c0_0) l0_0) := ⟨by (with_reducible repeat (first | apply Kd.V_alloc | apply Kd.V_drewN | apply Kd.V_drew)); exact Kd.V_mono (Kd.V_far (p := ⟨gb294, 1, none⟩) (Kd.V_far (p := ⟨gb294, 0, none⟩) (Kd.V_mono HO_289000.out (fun k_ hk => (⟨hk, okp hk⟩ : _ ∧ k_ ≠ gb294))) (fun _ hk => hk.2) (.string ((rd_T91 (rd_L6 y289 x13_1) x19_2).f0))) (fun _ hk => hk.2) (.int .i64 ((rd_T91 (rd_L6 y289 x13_1) x19_2).f1))) (fun _ hk => okp hk)⟩
               have n2_ : Aside0 (Kd.V k91 91 ((w28.setCell ⟨gb294, 0, none⟩ (.string ((rd_T91 (rd_L6 y289 x13_1) x19_2).f0))).setCell ⟨gb294, 1, none⟩ (.int .i64 ((rd_T91 (rd_L6 y289 x13_1) x19_2).f1))) w.heap.size (fun k_ => ((P0_0_ k_ ∨ P0_1_ k_) ∨ w.heap.size ≤ k_) ∧ some k_ ≠ (.slice (some ad292) y289.length co6 : Value).ownBlock ∧ k_ ≠ gb288 ∧ k_ ≠ gb294) (.slice A0_1 l0_1.length c0_1) l0_1) := ⟨by (with_reducible repeat (first | apply Kd.V_alloc | apply Kd.V_drewN | apply Kd.V_drew)); exact Kd.V_mono (Kd.V_far (p := ⟨gb294, 1, none⟩) (Kd.V_far (p := ⟨gb294, 0, none⟩) (Kd.V_mono HO_289001.out (fun k_ hk => (⟨hk, okp hk⟩ : _ ∧ k_ ≠ gb294))) (fun _ hk => hk.2) (.string ((rd_T91 (rd_L6 y289 x13_1) x19_2).f0))) (fun _ hk => hk.2) (.int .i64 ((rd_T91 (rd_L6 y289 x13_1) x19_2).f1))) (fun _ hk => okp hk)⟩
               have n3_ : Aside0 (((w28.setCell ⟨gb294, 0, none⟩ (.string ((rd_T91 (rd_L6 y289 x13_1) x19_2).f0))).setCell ⟨gb294, 1, none⟩ (.int .i64 ((rd_T91 (rd_L6 y289 x13_1) x19_2).f1))).heap[gb288]? = some (.cells #[.slice A0_0 l0_0.length c0_0, .slice A0_1 l0_1.length c0_1] 40 (0, 0))) := ⟨by (with_reducible repeat (first | refine blk_drewN ?_ _ | refine blk_drew ?_ | refine blk_alloc ?_ _)); refine blk_far ?_ NB288_294.out _; (with_reducible repeat (first | refine blk_drewN ?_ _ | refine blk_drew ?_ | refine blk_alloc ?_ _)); refine blk_far ?_ NB288_294.out _; exact bk BK288.out⟩
               have n4_ : Aside0 (((w28.setCell ⟨gb294, 0, none⟩ (.string ((rd_T91 (rd_L6 y289 x13_1) x19_2).f0))).setCell ⟨gb294, 1, none⟩ (.int .i64 ((rd_T91 (rd_L6 y289 x13_1) x19_2).f1))).heap[gb294]? = some (.cells #[.string ((rd_T91 (rd_L6 y289 x13_1) x19_2).f0), .int .i64 ((rd_T91 (rd_L6 y289 x13_1) x19_2).f1)] 91 (0, 0))) := ⟨by (with_reducible repeat (first | refine blk_drewN ?_ _ | refine blk_drew ?_ | refine blk_alloc ?_ _)); refine blk_put (cs := #[.string ((rd_T91 (rd_L6 y289 x13_1) x19_2).f0), .int .i64 0]) ?_ 1 _ rfl; (with_reducible repeat (first | refine blk_drewN ?_ _ | refine blk_drew ?_ | refine blk_alloc ?_ _)); refine blk_put (cs := #[.string (⟨#[]⟩ : ByteArray), .int .i64 0]) ?_ 0 _ rfl; exact bk BK294.out⟩
               have n5_ : Aside0 (Below w.heap.size w ((w28.setCell ⟨gb294, 0, none⟩ (.string ((rd_T91 (rd_L6 y289 x13_1) x19_2).f0))).setCell ⟨gb294, 1, none⟩ (.int .i64 ((rd_T91 (rd_L6 y289 x13_1) x19_2).f1)))) := ⟨by exact bw HB.out⟩
               have n6_ : Aside0 (Kd.C k91 ((w28.setCell ⟨gb294, 0, none⟩ (.string ((rd_T91 (rd_L6 y289 x13_1) x19_2).f0))).setCell ⟨gb294, 1, none⟩ (.int .i64 ((rd_T91 (rd_L6 y289 x13_1) x19_2).f1))) (some ad293) (rd_L6 y289 x13_1).length (rd_L6 y289 x13_1)) := ⟨(let ⟨W0_, h1_, h2_, h3_⟩ := SB294_HR292_0.out; Kd.C_below h1_ (by repeat (first | exact h3_ | refine below_set ?_ (Nat.le_trans h2_ (by first | exact Nat.le_refl _ | exact Nat.le_of_eq rfl)))))⟩
               (try clear HO_11)
               (try clear HO_289000)
               (try clear HO_289001)
               (try clear BK288)
               (try clear BK294)
               (try clear HB)
               (try clear HR292_0)
               generalize ((w28.setCell ⟨gb294, 0, none⟩ (.string ((rd_T91 (rd_L6 y289 x13_1) x19_2).f0))).setCell ⟨gb294, 1, none⟩ (.int .i64 ((rd_T91 (rd_L6 y289 x13_1) x19_2).f1))) = w31 at n0_ n1_ n2_ n3_ n4_ n5_ n6_ ⊢
               have HO_11 := n0_
               have HO_289000 := n1_
               have HO_289001 := n2_
               have BK288 := n3_
               have BK294 := n4_
               have HB := n5_
               have HR292_0 := n6_
               clear n0_ n1_ n2_ n3_ n4_ n5_ n6_
               replace HO_11 := Aside0.mk (Kd.N_drew HO_11.out)
               replace HO_289000 := Aside0.mk (Kd.V_drew HO_289000.out)
               replace HO_289001 := Aside0.mk (Kd.V_drew HO_289001.out)
               replace BK288 := Aside0.mk (blk_drew BK288.out)
               replace BK294 := Aside0.mk (blk_drew BK294.out)
               replace HR292_0 := Aside0.mk (Kd.C_drew HR292_0.out)
               replace HB := Aside0.mk (below_drew1 HB.out)
               refine start_ (n := 19) (S := fun w' => w'.cell? ⟨gb294, 0, none⟩ = some (.string ((rd_T91 (rd_L6 y289 x13_1) x19_2).f0)) ∧ w'.cell? ⟨gb294, 1, none⟩ = some (.int .i64 ((rd_T91 (rd_L6 y289 x13_1) x19_2).f1))) (ds := []) (mB 19 0) (by kernel_rfl) rfl rfl (cs2 BK294.out) (fun hHeld => ?_); refine with_tabW impl_SchemaValid.tab7 impl_SchemaValid.bits7 (fun HT_ HW_ => ?_)
               generalize w31.drew = w32 at HO_11 HO_289000 HO_289001 BK288 BK294 HR292_0 HB hHeld ⊢
               refine pn 0 24 HT_.out ?_
               refine tk 1 25 HT_.out HW_.out hHeld ?_
               refine on 2 26 HT_.out (fun K hK => ?_)
               refine gs Try.func68 #[.string ((rd_T91 (rd_L6 y289 x13_1) x19_2).f0)] ?_
               with_reducible refine (impl_NameValid.calls k2 ((rd_T91 (rd_L6 y289 x13_1) x19_2).f0) true _ A13.out).mono ?_
               rintro e w' ⟨rfl, ⟨nd, rfl⟩⟩
               refine ⟨_, rfl, ?_⟩
               refine hK.out _ _ (cs2 BK294.out) (fun hHeld => ?_)
               clear hK K
               refine nm (some 26) ?_
               refine pn 3 27 HT_.out ?_
               refine pn 4 28 HT_.out ?_
               refine pn 5 29 HT_.out ?_
               refine tk 6 30 HT_.out HW_.out hHeld ?_
               refine on 7 31 HT_.out (fun K hK => ?_)
               refine gs Try.func48 #[.int .i64 ((rd_T91 (rd_L6 y289 x13_1) x19_2).f1), .int .i64 1, .int .i64 3] ?_
               with_reducible refine (impl_in.calls ((rd_T91 (rd_L6 y289 x13_1) x19_2).f1) 1 3 true _ A15.out).mono ?_
               rintro e w' ⟨rfl, ⟨nd, rfl⟩⟩
               refine ⟨_, rfl, ?_⟩
               have q33 : (x19_2 : Int) ≤ (((rd_L6 y289 x13_1).length : Int) : Int) := of_decide_eq_true (by first | (with_reducible assumption) | assumption)
               obtain ⟨i033, hi033, _, hsz33, _⟩ := info_parts info91
               have hroom33 : (rd_L6 y289 x13_1).length ≤ c292_0 := HC292_0.out
               have hC33 : Kd.C k91 _ (some ad293) (rd_L6 y289 x13_1).length (rd_L6 y289 x13_1) := HR292_0.out
               have hcut33 := cut_to (P := Try.prog) 38 91 .i64 Try.underlying38 hi033 (some ad293) (rd_L6 y289 x13_1).length c292_0 x19_2 (of_decide_eq_true (by first | (with_reducible assumption) | assumption)) q33 hroom33
               have hr33 := Kd.C_take (m := (x19_2 : Int).toNat) hC33 (by omega)
               have hy33 : y297.length = (x19_2 : Int).toNat := (by rw [Ny297.out, List.length_take]; omega)
               rw [← Ny297.out] at hr33
               rw [← hy33] at hcut33
               have HR300 := Aside0.mk hr33
               have HC300 := Aside0.mk (show y297.length ≤ c292_0 from by omega)
               clear hr33 hC33 hroom33 hi033 hsz33
               have KY33 := Aside0.mk hy33
               clear hy33
               replace q33 := eq_true q33
               refine hK.out _ _ (cs2 BK294.out) (fun hHeld => ?_)
               clear hK K
               refine nm (some 31) ?_
               refine pn 8 32 HT_.out ?_
               refine pn 9 33 HT_.out ?_
               refine pn 10 34 HT_.out ?_
               refine pn 11 35 HT_.out ?_
               refine pn 12 36 HT_.out ?_
               refine pn 13 37 HT_.out ?_
               refine pn 14 38 HT_.out ?_
               refine tk 15 39 HT_.out HW_.out hHeld ?_
               refine on 16 40 HT_.out (fun K hK => ?_)
               refine gs Try.func69 #[.slice (some ad293) y297.length c292_0, .string ((rd_T91 (rd_L6 y289 x13_1) x19_2).f0)] ?_
               with_reducible refine (impl_kindIn.calls k2 _ _ y297 ((rd_T91 (rd_L6 y289 x13_1) x19_2).f0) t301 _ ?side1 ?side2 A19.out).mono ?_
               (case side1 => repeat (first | exact (Kd.C_below HR300.out (by exact bw HB.out)) | exact HR300.out | (with_reducible refine Kd.C_alloc ?_ _) | (with_reducible refine Kd.C_drewN ?_ _) | (with_reducible refine Kd.C_drew ?_)))
               (case side2 => exact HC300.out)
               rintro e w34 ⟨rfl, hb⟩
               refine ⟨_, rfl, ?_⟩
               replace HO_11 := Aside0.mk (Kd.N_below (by exact Kd.xN HO_11.out) hb)
               replace HO_289000 := Aside0.mk (Kd.V_below (by exact Kd.xV HO_289000.out) hb)
               replace HO_289001 := Aside0.mk (Kd.V_below (by exact Kd.xV HO_289001.out) hb)
               replace BK288 := bB BK288 hb
               replace HR292_0 := Aside0.mk (Kd.C_below (by repeat (first | (with_reducible exact HR292_0.out) | (with_reducible refine Kd.C_alloc ?_ _) | (with_reducible refine Kd.C_drewN ?_ _) | (with_reducible refine Kd.C_drew ?_) | exact HR292_0.out)) hb)
               replace BK294 := bB BK294 hb
               replace HB := bS HB hb
               (try clear hb)
               (try clear hb2)
               (try clear hk)
               (try clear hi)
               refine hK.out _ _ (cs2 BK294.out) (fun hHeld => ?_)
               clear hK K
               refine nm (some 40) ?_
               refine pn 17 41 HT_.out ?_
               refine pn 18 42 HT_.out ?_
               refine done_ (done_of HT_.out (by kernel_rfl)) ?_
               try go_wp2
               go_ret
               exact ⟨by first | rfl | (simp [errW_none, errW_some] <;> rfl) | (simp [*, errW_none, errW_some] <;> rfl), by exact bw HB.out⟩
             ·
              rw [if_neg c18] at H; exact absurd H (by simp)
            ·
             replace c16 := Bool.eq_false_iff.mpr c16
             subst c16
             have H1 : (some false) = some r := by rw [if_neg (show ¬ (false = true) by decide)] at H; exact H
             clear H
             have H := H1
             clear H1
             obtain rfl := Option.some.inj H
             have p293 : 0 ≤ (x19_2 : Int) := of_decide_eq_true (by first | (with_reducible assumption) | assumption)
             have q293 : x19_2 < ((rd_L6 y289 x13_1).length : Int) := of_decide_eq_true (by first | (with_reducible assumption) | assumption)
             obtain ⟨ad293, e293, hx293_0, hx293_1⟩ := at_T91 HR292_0.out x19_2 p293 q293
             cases e293
             first | replace hx293_0 := (HB.out.cell (World.block_lt_of_cell? w _ hx293_0)).trans hx293_0 | skip
             first | replace hx293_1 := (HB.out.cell (World.block_lt_of_cell? w _ hx293_1)).trans hx293_1 | skip
             replace p293 := eq_true p293
             replace q293 := eq_true q293
             try go_wp2_with (first | ((with_reducible refine gate_dst (N := 6) rfl ?_); refine bx 6 #[.string (⟨#[]⟩ : ByteArray), .int .i64 0] 91 ?_; intro gb294 hg w35 hbox hb; replace HO_11 := Aside0.mk (Kd.N_below (Kd.N_elderB (by exact Kd.xN HO_11.out) gb294 (Nat.le_of_eq hg.symm)) hb); replace HO_289000 := Aside0.mk (Kd.V_below (Kd.V_elderB (by exact Kd.xV HO_289000.out) gb294 (Nat.le_of_eq hg.symm)) hb); replace HO_289001 := Aside0.mk (Kd.V_below (Kd.V_elderB (by exact Kd.xV HO_289001.out) gb294 (Nat.le_of_eq hg.symm)) hb); have SB294_HR292_0 := Aside0.mk ((⟨_, by repeat (first | (with_reducible exact HR292_0.out) | (with_reducible refine Kd.C_alloc ?_ _) | (with_reducible refine Kd.C_drewN ?_ _) | (with_reducible refine Kd.C_drew ?_) | exact HR292_0.out), Nat.le_of_eq hg.symm, hb⟩ : ∃ W0_ : World, Kd.C k91 W0_ (some ad293) (rd_L6 y289 x13_1).length (rd_L6 y289 x13_1) ∧ W0_.heap.size ≤ gb294 ∧ Below W0_.heap.size W0_ w35)); replace HR292_0 := Aside0.mk (Kd.C_below (by repeat (first | (with_reducible exact HR292_0.out) | (with_reducible refine Kd.C_alloc ?_ _) | (with_reducible refine Kd.C_drewN ?_ _) | (with_reducible refine Kd.C_drew ?_) | exact HR292_0.out)) hb); have BK294 := Aside0.mk (hbox); have GW294 := gwB HB hg; have GE294 := gwB HB hg; replace HB := bS HB hb; have NB288_294 := nbL BK288 hg; have NB294_288 := nbR BK288 hg; replace BK288 := bB BK288 hb; clear hb hbox hg; have hnb36 := NB294_288.out; have hnc36 := NB288_294.out; obtain ⟨hcz37_0, hcz37_1⟩ := cs2 BK294.out; obtain ⟨hfz37_0, hfz37_1⟩ := fz2 BK294.out))
             have n0_ : Aside0 (Kd.N (Kd.slice 91 k91) 38 ((w35.setCell ⟨gb294, 0, none⟩ (.string ((rd_T91 (rd_L6 y289 x13_1) x19_2).f0))).setCell ⟨gb294, 1, none⟩ (.int .i64 ((rd_T91 (rd_L6 y289 x13_1) x19_2).f1))) w.heap.size (fun k_ => ((P0_0_ k_ ∨ P0_1_ k_) ∨ w.heap.size ≤ k_) ∧ k_ ≠ gb288 ∧ k_ ≠ gb294) (.slice (some ad292) y289.length co6) y289) := ⟨by (with_reducible repeat (first | apply Kd.N_alloc | apply Kd.N_drewN | apply Kd.N_drew)); exact Kd.N_mono (Kd.N_far (p := ⟨gb294, 1, none⟩) (Kd.N_far (p := ⟨gb294, 0, none⟩) (Kd.N_mono HO_11.out (fun k_ hk => (⟨hk, okp hk⟩ : _ ∧ k_ ≠ gb294))) (fun _ hk => hk.2) (.string ((rd_T91 (rd_L6 y289 x13_1) x19_2).f0))) (fun _ hk => hk.2) (.int .i64 ((rd_T91 (rd_L6 y289 x13_1) x19_2).f1))) (fun _ hk => okp hk)⟩
             have n1_ : Aside0 (Kd.V k91 91 ((w35.setCell ⟨gb294, 0, none⟩ (.string ((rd_T91 (rd_L6 y289 x13_1) x19_2).f0))).setCell ⟨gb294, 1, none⟩ (.int .i64 ((rd_T91 (rd_L6 y289 x13_1) x19_2).f1))) w.heap.size (fun k_ => ((P0_0_ k_ ∨ P0_1_ k_) ∨ w.heap.size ≤ k_) ∧ some k_ ≠ (.slice (some ad292) y289.length co6 : Value).ownBlock ∧ k_ ≠ gb288 ∧ k_ ≠ gb294) (.slice A0_0 l0_0.length c0_0) l0_0) := ⟨by (with_reducible repeat (first | apply Kd.V_alloc | apply Kd.V_drewN | apply Kd.V_drew)); exact Kd.V_mono (Kd.V_far (p := ⟨gb294, 1, none⟩) (Kd.V_far (p := ⟨gb294, 0, none⟩) (Kd.V_mono HO_289000.out (fun k_ hk => (⟨hk, okp hk⟩ : _ ∧ k_ ≠ gb294))) (fun _ hk => hk.2) (.string ((rd_T91 (rd_L6 y289 x13_1) x19_2).f0))) (fun _ hk => hk.2) (.int .i64 ((rd_T91 (rd_L6 y289 x13_1) x19_2).f1))) (fun _ hk => okp hk)⟩
             have n2_ : Aside0 (Kd.V k91 91 ((w35.setCell ⟨gb294, 0, none⟩ (.string ((rd_T91 (rd_L6 y289 x13_1) x19_2).f0))).setCell ⟨gb294, 1, none⟩ (.int .i64 ((rd_T91 (rd_L6 y289 x13_1) x19_2).f1))) w.heap.size (fun k_ => ((P0_0_ k_ ∨ P0_1_ k_) ∨ w.heap.size ≤ k_) ∧ some k_ ≠ (.slice (some ad292) y289.length co6 : Value).ownBlock ∧ k_ ≠ gb288 ∧ k_ ≠ gb294) (.slice A0_1 l0_1.length c0_1) l0_1) := ⟨by (with_reducible repeat (first | apply Kd.V_alloc | apply Kd.V_drewN | apply Kd.V_drew)); exact Kd.V_mono (Kd.V_far (p := ⟨gb294, 1, none⟩) (Kd.V_far (p := ⟨gb294, 0, none⟩) (Kd.V_mono HO_289001.out (fun k_ hk => (⟨hk, okp hk⟩ : _ ∧ k_ ≠ gb294))) (fun _ hk => hk.2) (.string ((rd_T91 (rd_L6 y289 x13_1) x19_2).f0))) (fun _ hk => hk.2) (.int .i64 ((rd_T91 (rd_L6 y289 x13_1) x19_2).f1))) (fun _ hk => okp hk)⟩
             have n3_ : Aside0 (((w35.setCell ⟨gb294, 0, none⟩ (.string ((rd_T91 (rd_L6 y289 x13_1) x19_2).f0))).setCell ⟨gb294, 1, none⟩ (.int .i64 ((rd_T91 (rd_L6 y289 x13_1) x19_2).f1))).heap[gb288]? = some (.cells #[.slice A0_0 l0_0.length c0_0, .slice A0_1 l0_1.length c0_1] 40 (0, 0))) := ⟨by (with_reducible repeat (first | refine blk_drewN ?_ _ | refine blk_drew ?_ | refine blk_alloc ?_ _)); refine blk_far ?_ NB288_294.out _; (with_reducible repeat (first | refine blk_drewN ?_ _ | refine blk_drew ?_ | refine blk_alloc ?_ _)); refine blk_far ?_ NB288_294.out _; exact bk BK288.out⟩
             have n4_ : Aside0 (((w35.setCell ⟨gb294, 0, none⟩ (.string ((rd_T91 (rd_L6 y289 x13_1) x19_2).f0))).setCell ⟨gb294, 1, none⟩ (.int .i64 ((rd_T91 (rd_L6 y289 x13_1) x19_2).f1))).heap[gb294]? = some (.cells #[.string ((rd_T91 (rd_L6 y289 x13_1) x19_2).f0), .int .i64 ((rd_T91 (rd_L6 y289 x13_1) x19_2).f1)] 91 (0, 0))) := ⟨by (with_reducible repeat (first | refine blk_drewN ?_ _ | refine blk_drew ?_ | refine blk_alloc ?_ _)); refine blk_put (cs := #[.string ((rd_T91 (rd_L6 y289 x13_1) x19_2).f0), .int .i64 0]) ?_ 1 _ rfl; (with_reducible repeat (first | refine blk_drewN ?_ _ | refine blk_drew ?_ | refine blk_alloc ?_ _)); refine blk_put (cs := #[.string (⟨#[]⟩ : ByteArray), .int .i64 0]) ?_ 0 _ rfl; exact bk BK294.out⟩
             have n5_ : Aside0 (Below w.heap.size w ((w35.setCell ⟨gb294, 0, none⟩ (.string ((rd_T91 (rd_L6 y289 x13_1) x19_2).f0))).setCell ⟨gb294, 1, none⟩ (.int .i64 ((rd_T91 (rd_L6 y289 x13_1) x19_2).f1)))) := ⟨by exact bw HB.out⟩
             have n6_ : Aside0 (Kd.C k91 ((w35.setCell ⟨gb294, 0, none⟩ (.string ((rd_T91 (rd_L6 y289 x13_1) x19_2).f0))).setCell ⟨gb294, 1, none⟩ (.int .i64 ((rd_T91 (rd_L6 y289 x13_1) x19_2).f1))) (some ad293) (rd_L6 y289 x13_1).length (rd_L6 y289 x13_1)) := ⟨(let ⟨W0_, h1_, h2_, h3_⟩ := SB294_HR292_0.out; Kd.C_below h1_ (by repeat (first | exact h3_ | refine below_set ?_ (Nat.le_trans h2_ (by first | exact Nat.le_refl _ | exact Nat.le_of_eq rfl)))))⟩
             (try clear HO_11)
             (try clear HO_289000)
             (try clear HO_289001)
             (try clear BK288)
             (try clear BK294)
             (try clear HB)
             (try clear HR292_0)
             generalize ((w35.setCell ⟨gb294, 0, none⟩ (.string ((rd_T91 (rd_L6 y289 x13_1) x19_2).f0))).setCell ⟨gb294, 1, none⟩ (.int .i64 ((rd_T91 (rd_L6 y289 x13_1) x19_2).f1))) = w38 at n0_ n1_ n2_ n3_ n4_ n5_ n6_ ⊢
             have HO_11 := n0_
             have HO_289000 := n1_
             have HO_289001 := n2_
             have BK288 := n3_
             have BK294 := n4_
             have HB := n5_
             have HR292_0 := n6_
             clear n0_ n1_ n2_ n3_ n4_ n5_ n6_
             replace HO_11 := Aside0.mk (Kd.N_drew HO_11.out)
             replace HO_289000 := Aside0.mk (Kd.V_drew HO_289000.out)
             replace HO_289001 := Aside0.mk (Kd.V_drew HO_289001.out)
             replace BK288 := Aside0.mk (blk_drew BK288.out)
             replace BK294 := Aside0.mk (blk_drew BK294.out)
             replace HR292_0 := Aside0.mk (Kd.C_drew HR292_0.out)
             replace HB := Aside0.mk (below_drew1 HB.out)
             refine start_ (n := 19) (S := fun w' => w'.cell? ⟨gb294, 0, none⟩ = some (.string ((rd_T91 (rd_L6 y289 x13_1) x19_2).f0)) ∧ w'.cell? ⟨gb294, 1, none⟩ = some (.int .i64 ((rd_T91 (rd_L6 y289 x13_1) x19_2).f1))) (ds := []) (mB 19 0) (by kernel_rfl) rfl rfl (cs2 BK294.out) (fun hHeld => ?_); refine with_tabW impl_SchemaValid.tab7 impl_SchemaValid.bits7 (fun HT_ HW_ => ?_)
             generalize w38.drew = w39 at HO_11 HO_289000 HO_289001 BK288 BK294 HR292_0 HB hHeld ⊢
             refine pn 0 24 HT_.out ?_
             refine tk 1 25 HT_.out HW_.out hHeld ?_
             refine on 2 26 HT_.out (fun K hK => ?_)
             refine gs Try.func68 #[.string ((rd_T91 (rd_L6 y289 x13_1) x19_2).f0)] ?_
             with_reducible refine (impl_NameValid.calls k2 ((rd_T91 (rd_L6 y289 x13_1) x19_2).f0) true _ A13.out).mono ?_
             rintro e w' ⟨rfl, ⟨nd, rfl⟩⟩
             refine ⟨_, rfl, ?_⟩
             refine hK.out _ _ (cs2 BK294.out) (fun hHeld => ?_)
             clear hK K
             refine nm (some 26) ?_
             refine pn 3 27 HT_.out ?_
             refine pn 4 28 HT_.out ?_
             refine pn 5 29 HT_.out ?_
             refine tk 6 30 HT_.out HW_.out hHeld ?_
             refine on 7 31 HT_.out (fun K hK => ?_)
             refine gs Try.func48 #[.int .i64 ((rd_T91 (rd_L6 y289 x13_1) x19_2).f1), .int .i64 1, .int .i64 3] ?_
             with_reducible refine (impl_in.calls ((rd_T91 (rd_L6 y289 x13_1) x19_2).f1) 1 3 false _ A15.out).mono ?_
             rintro e w' ⟨rfl, ⟨nd, rfl⟩⟩
             refine ⟨_, rfl, ?_⟩
             refine hK.out _ _ (cs2 BK294.out) (fun hHeld => ?_)
             clear hK K
             refine nm (some 31) ?_
             refine pn 8 32 HT_.out ?_
             refine pn 9 33 HT_.out ?_
             refine pn 10 34 HT_.out ?_
             refine pf 11 35 HT_.out ?_
             refine pf 12 36 HT_.out ?_
             refine pf 13 37 HT_.out ?_
             refine pf 14 38 HT_.out ?_
             refine pf 15 39 HT_.out ?_
             refine pf 16 40 HT_.out ?_
             refine pf 17 41 HT_.out ?_
             refine pn 18 42 HT_.out ?_
             refine done_ (done_of HT_.out (by kernel_rfl)) ?_
             try go_wp2
             go_ret
             exact ⟨by first | rfl | (simp [errW_none, errW_some] <;> rfl) | (simp [*, errW_none, errW_some] <;> rfl), by exact bw HB.out⟩
           ·
            replace c14 := Bool.eq_false_iff.mpr c14
            subst c14
            have H1 : (some false) = some r := by rw [if_neg (show ¬ (false = true) by decide)] at H; exact H
            clear H
            have H := H1
            clear H1
            obtain rfl := Option.some.inj H
            have p293 : 0 ≤ (x19_2 : Int) := of_decide_eq_true (by first | (with_reducible assumption) | assumption)
            have q293 : x19_2 < ((rd_L6 y289 x13_1).length : Int) := of_decide_eq_true (by first | (with_reducible assumption) | assumption)
            obtain ⟨ad293, e293, hx293_0, hx293_1⟩ := at_T91 HR292_0.out x19_2 p293 q293
            cases e293
            first | replace hx293_0 := (HB.out.cell (World.block_lt_of_cell? w _ hx293_0)).trans hx293_0 | skip
            first | replace hx293_1 := (HB.out.cell (World.block_lt_of_cell? w _ hx293_1)).trans hx293_1 | skip
            replace p293 := eq_true p293
            replace q293 := eq_true q293
            try go_wp2_with (first | ((with_reducible refine gate_dst (N := 6) rfl ?_); refine bx 6 #[.string (⟨#[]⟩ : ByteArray), .int .i64 0] 91 ?_; intro gb294 hg w40 hbox hb; replace HO_11 := Aside0.mk (Kd.N_below (Kd.N_elderB (by exact Kd.xN HO_11.out) gb294 (Nat.le_of_eq hg.symm)) hb); replace HO_289000 := Aside0.mk (Kd.V_below (Kd.V_elderB (by exact Kd.xV HO_289000.out) gb294 (Nat.le_of_eq hg.symm)) hb); replace HO_289001 := Aside0.mk (Kd.V_below (Kd.V_elderB (by exact Kd.xV HO_289001.out) gb294 (Nat.le_of_eq hg.symm)) hb); have SB294_HR292_0 := Aside0.mk ((⟨_, by repeat (first | (with_reducible exact HR292_0.out) | (with_reducible refine Kd.C_alloc ?_ _) | (with_reducible refine Kd.C_drewN ?_ _) | (with_reducible refine Kd.C_drew ?_) | exact HR292_0.out), Nat.le_of_eq hg.symm, hb⟩ : ∃ W0_ : World, Kd.C k91 W0_ (some ad293) (rd_L6 y289 x13_1).length (rd_L6 y289 x13_1) ∧ W0_.heap.size ≤ gb294 ∧ Below W0_.heap.size W0_ w40)); replace HR292_0 := Aside0.mk (Kd.C_below (by repeat (first | (with_reducible exact HR292_0.out) | (with_reducible refine Kd.C_alloc ?_ _) | (with_reducible refine Kd.C_drewN ?_ _) | (with_reducible refine Kd.C_drew ?_) | exact HR292_0.out)) hb); have BK294 := Aside0.mk (hbox); have GW294 := gwB HB hg; have GE294 := gwB HB hg; replace HB := bS HB hb; have NB288_294 := nbL BK288 hg; have NB294_288 := nbR BK288 hg; replace BK288 := bB BK288 hb; clear hb hbox hg; have hnb41 := NB294_288.out; have hnc41 := NB288_294.out; obtain ⟨hcz42_0, hcz42_1⟩ := cs2 BK294.out; obtain ⟨hfz42_0, hfz42_1⟩ := fz2 BK294.out))
            have n0_ : Aside0 (Kd.N (Kd.slice 91 k91) 38 ((w40.setCell ⟨gb294, 0, none⟩ (.string ((rd_T91 (rd_L6 y289 x13_1) x19_2).f0))).setCell ⟨gb294, 1, none⟩ (.int .i64 ((rd_T91 (rd_L6 y289 x13_1) x19_2).f1))) w.heap.size (fun k_ => ((P0_0_ k_ ∨ P0_1_ k_) ∨ w.heap.size ≤ k_) ∧ k_ ≠ gb288 ∧ k_ ≠ gb294) (.slice (some ad292) y289.length co6) y289) := ⟨by (with_reducible repeat (first | apply Kd.N_alloc | apply Kd.N_drewN | apply Kd.N_drew)); exact Kd.N_mono (Kd.N_far (p := ⟨gb294, 1, none⟩) (Kd.N_far (p := ⟨gb294, 0, none⟩) (Kd.N_mono HO_11.out (fun k_ hk => (⟨hk, okp hk⟩ : _ ∧ k_ ≠ gb294))) (fun _ hk => hk.2) (.string ((rd_T91 (rd_L6 y289 x13_1) x19_2).f0))) (fun _ hk => hk.2) (.int .i64 ((rd_T91 (rd_L6 y289 x13_1) x19_2).f1))) (fun _ hk => okp hk)⟩
            have n1_ : Aside0 (Kd.V k91 91 ((w40.setCell ⟨gb294, 0, none⟩ (.string ((rd_T91 (rd_L6 y289 x13_1) x19_2).f0))).setCell ⟨gb294, 1, none⟩ (.int .i64 ((rd_T91 (rd_L6 y289 x13_1) x19_2).f1))) w.heap.size (fun k_ => ((P0_0_ k_ ∨ P0_1_ k_) ∨ w.heap.size ≤ k_) ∧ some k_ ≠ (.slice (some ad292) y289.length co6 : Value).ownBlock ∧ k_ ≠ gb288 ∧ k_ ≠ gb294) (.slice A0_0 l0_0.length c0_0) l0_0) := ⟨by (with_reducible repeat (first | apply Kd.V_alloc | apply Kd.V_drewN | apply Kd.V_drew)); exact Kd.V_mono (Kd.V_far (p := ⟨gb294, 1, none⟩) (Kd.V_far (p := ⟨gb294, 0, none⟩) (Kd.V_mono HO_289000.out (fun k_ hk => (⟨hk, okp hk⟩ : _ ∧ k_ ≠ gb294))) (fun _ hk => hk.2) (.string ((rd_T91 (rd_L6 y289 x13_1) x19_2).f0))) (fun _ hk => hk.2) (.int .i64 ((rd_T91 (rd_L6 y289 x13_1) x19_2).f1))) (fun _ hk => okp hk)⟩
            have n2_ : Aside0 (Kd.V k91 91 ((w40.setCell ⟨gb294, 0, none⟩ (.string ((rd_T91 (rd_L6 y289 x13_1) x19_2).f0))).setCell ⟨gb294, 1, none⟩ (.int .i64 ((rd_T91 (rd_L6 y289 x13_1) x19_2).f1))) w.heap.size (fun k_ => ((P0_0_ k_ ∨ P0_1_ k_) ∨ w.heap.size ≤ k_) ∧ some k_ ≠ (.slice (some ad292) y289.length co6 : Value).ownBlock ∧ k_ ≠ gb288 ∧ k_ ≠ gb294) (.slice A0_1 l0_1.length c0_1) l0_1) := ⟨by (with_reducible repeat (first | apply Kd.V_alloc | apply Kd.V_drewN | apply Kd.V_drew)); exact Kd.V_mono (Kd.V_far (p := ⟨gb294, 1, none⟩) (Kd.V_far (p := ⟨gb294, 0, none⟩) (Kd.V_mono HO_289001.out (fun k_ hk => (⟨hk, okp hk⟩ : _ ∧ k_ ≠ gb294))) (fun _ hk => hk.2) (.string ((rd_T91 (rd_L6 y289 x13_1) x19_2).f0))) (fun _ hk => hk.2) (.int .i64 ((rd_T91 (rd_L6 y289 x13_1) x19_2).f1))) (fun _ hk => okp hk)⟩
            have n3_ : Aside0 (((w40.setCell ⟨gb294, 0, none⟩ (.string ((rd_T91 (rd_L6 y289 x13_1) x19_2).f0))).setCell ⟨gb294, 1, none⟩ (.int .i64 ((rd_T91 (rd_L6 y289 x13_1) x19_2).f1))).heap[gb288]? = some (.cells #[.slice A0_0 l0_0.length c0_0, .slice A0_1 l0_1.length c0_1] 40 (0, 0))) := ⟨by (with_reducible repeat (first | refine blk_drewN ?_ _ | refine blk_drew ?_ | refine blk_alloc ?_ _)); refine blk_far ?_ NB288_294.out _; (with_reducible repeat (first | refine blk_drewN ?_ _ | refine blk_drew ?_ | refine blk_alloc ?_ _)); refine blk_far ?_ NB288_294.out _; exact bk BK288.out⟩
            have n4_ : Aside0 (((w40.setCell ⟨gb294, 0, none⟩ (.string ((rd_T91 (rd_L6 y289 x13_1) x19_2).f0))).setCell ⟨gb294, 1, none⟩ (.int .i64 ((rd_T91 (rd_L6 y289 x13_1) x19_2).f1))).heap[gb294]? = some (.cells #[.string ((rd_T91 (rd_L6 y289 x13_1) x19_2).f0), .int .i64 ((rd_T91 (rd_L6 y289 x13_1) x19_2).f1)] 91 (0, 0))) := ⟨by (with_reducible repeat (first | refine blk_drewN ?_ _ | refine blk_drew ?_ | refine blk_alloc ?_ _)); refine blk_put (cs := #[.string ((rd_T91 (rd_L6 y289 x13_1) x19_2).f0), .int .i64 0]) ?_ 1 _ rfl; (with_reducible repeat (first | refine blk_drewN ?_ _ | refine blk_drew ?_ | refine blk_alloc ?_ _)); refine blk_put (cs := #[.string (⟨#[]⟩ : ByteArray), .int .i64 0]) ?_ 0 _ rfl; exact bk BK294.out⟩
            have n5_ : Aside0 (Below w.heap.size w ((w40.setCell ⟨gb294, 0, none⟩ (.string ((rd_T91 (rd_L6 y289 x13_1) x19_2).f0))).setCell ⟨gb294, 1, none⟩ (.int .i64 ((rd_T91 (rd_L6 y289 x13_1) x19_2).f1)))) := ⟨by exact bw HB.out⟩
            have n6_ : Aside0 (Kd.C k91 ((w40.setCell ⟨gb294, 0, none⟩ (.string ((rd_T91 (rd_L6 y289 x13_1) x19_2).f0))).setCell ⟨gb294, 1, none⟩ (.int .i64 ((rd_T91 (rd_L6 y289 x13_1) x19_2).f1))) (some ad293) (rd_L6 y289 x13_1).length (rd_L6 y289 x13_1)) := ⟨(let ⟨W0_, h1_, h2_, h3_⟩ := SB294_HR292_0.out; Kd.C_below h1_ (by repeat (first | exact h3_ | refine below_set ?_ (Nat.le_trans h2_ (by first | exact Nat.le_refl _ | exact Nat.le_of_eq rfl)))))⟩
            (try clear HO_11)
            (try clear HO_289000)
            (try clear HO_289001)
            (try clear BK288)
            (try clear BK294)
            (try clear HB)
            (try clear HR292_0)
            generalize ((w40.setCell ⟨gb294, 0, none⟩ (.string ((rd_T91 (rd_L6 y289 x13_1) x19_2).f0))).setCell ⟨gb294, 1, none⟩ (.int .i64 ((rd_T91 (rd_L6 y289 x13_1) x19_2).f1))) = w43 at n0_ n1_ n2_ n3_ n4_ n5_ n6_ ⊢
            have HO_11 := n0_
            have HO_289000 := n1_
            have HO_289001 := n2_
            have BK288 := n3_
            have BK294 := n4_
            have HB := n5_
            have HR292_0 := n6_
            clear n0_ n1_ n2_ n3_ n4_ n5_ n6_
            replace HO_11 := Aside0.mk (Kd.N_drew HO_11.out)
            replace HO_289000 := Aside0.mk (Kd.V_drew HO_289000.out)
            replace HO_289001 := Aside0.mk (Kd.V_drew HO_289001.out)
            replace BK288 := Aside0.mk (blk_drew BK288.out)
            replace BK294 := Aside0.mk (blk_drew BK294.out)
            replace HR292_0 := Aside0.mk (Kd.C_drew HR292_0.out)
            replace HB := Aside0.mk (below_drew1 HB.out)
            refine start_ (n := 19) (S := fun w' => w'.cell? ⟨gb294, 0, none⟩ = some (.string ((rd_T91 (rd_L6 y289 x13_1) x19_2).f0)) ∧ w'.cell? ⟨gb294, 1, none⟩ = some (.int .i64 ((rd_T91 (rd_L6 y289 x13_1) x19_2).f1))) (ds := []) (mB 19 0) (by kernel_rfl) rfl rfl (cs2 BK294.out) (fun hHeld => ?_); refine with_tabW impl_SchemaValid.tab7 impl_SchemaValid.bits7 (fun HT_ HW_ => ?_)
            generalize w43.drew = w44 at HO_11 HO_289000 HO_289001 BK288 BK294 HR292_0 HB hHeld ⊢
            refine pn 0 24 HT_.out ?_
            refine tk 1 25 HT_.out HW_.out hHeld ?_
            refine on 2 26 HT_.out (fun K hK => ?_)
            refine gs Try.func68 #[.string ((rd_T91 (rd_L6 y289 x13_1) x19_2).f0)] ?_
            with_reducible refine (impl_NameValid.calls k2 ((rd_T91 (rd_L6 y289 x13_1) x19_2).f0) false _ A13.out).mono ?_
            rintro e w' ⟨rfl, ⟨nd, rfl⟩⟩
            refine ⟨_, rfl, ?_⟩
            refine hK.out _ _ (cs2 BK294.out) (fun hHeld => ?_)
            clear hK K
            refine nm (some 26) ?_
            refine pn 3 27 HT_.out ?_
            refine pn 4 28 HT_.out ?_
            refine pf 5 29 HT_.out ?_
            refine pf 6 30 HT_.out ?_
            refine pf 7 31 HT_.out ?_
            refine pf 8 32 HT_.out ?_
            refine pn 9 33 HT_.out ?_
            refine pn 10 34 HT_.out ?_
            refine pf 11 35 HT_.out ?_
            refine pf 12 36 HT_.out ?_
            refine pf 13 37 HT_.out ?_
            refine pf 14 38 HT_.out ?_
            refine pf 15 39 HT_.out ?_
            refine pf 16 40 HT_.out ?_
            refine pf 17 41 HT_.out ?_
            refine pn 18 42 HT_.out ?_
            refine done_ (done_of HT_.out (by kernel_rfl)) ?_
            try go_wp2
            go_ret
            exact ⟨by first | rfl | (simp [errW_none, errW_some] <;> rfl) | (simp [*, errW_none, errW_some] <;> rfl), by exact bw HB.out⟩
          ·
           rw [if_neg c12] at H; exact absurd H (by simp)
         ·
          rw [if_neg c11] at H; exact absurd H (by simp)
        ·
         rw [if_neg c10] at H; have c10b0 : decide (x19_2 < ((rd_L6 y289 x13_1).length : Int)) = false := decide_eq_false c10; clear c10
         by_cases c45 : ((rd_L6 y289 x13_1).length : Int) > 6
         ·
          rw [if_pos c45] at H; have c45b0 : decide (6 < ((rd_L6 y289 x13_1).length : Int)) = true := decide_eq_true c45
          have c45b1 : decide (6 < (rd_L6 y289 x13_1).length) = true := decide_eq_true (by omega)
          clear c45
          obtain rfl := Option.some.inj H
          go_wp2
          go_ret
          exact ⟨by first | rfl | (simp [errW_none, errW_some] <;> rfl) | (simp [*, errW_none, errW_some] <;> rfl), by exact bw HB.out⟩
         ·
          rw [if_neg c45] at H; have c45b0 : decide (6 < ((rd_L6 y289 x13_1).length : Int)) = false := decide_eq_false c45
          have c45b1 : decide (6 < (rd_L6 y289 x13_1).length) = false := decide_eq_false (by omega)
          clear c45
          have H' := Aside0.mk H
          clear H
          go_wp2
          go_roundg k2
          case measure => have := HK1.out; have := HK2.out; omega
          case rel => exact ⟨(wrap64 (x13_1 + 1)), (by first | rfl | (simp; done) | (simp [*]; done)), H', ⟨by have := HK1.out; have := HK2.out; omega⟩, ⟨by exact Kd.xN HO_11.out⟩, ⟨by exact Kd.xV HO_289000.out⟩, ⟨by exact Kd.xV HO_289001.out⟩, ⟨by exact bk BK288.out⟩, ⟨by exact bw HB.out⟩⟩
     ·
      rw [if_neg c9] at H; exact absurd H (by simp)
    ·
     rw [if_neg c8] at H; exact absurd H (by simp)
   ·
    rw [if_neg c7] at H; have c7b0 : decide (x13_1 < (y289.length : Int)) = false := decide_eq_false c7; clear c7
    obtain rfl := Option.some.inj H
    go_wp2
    go_ret
    exact ⟨by first | rfl | (simp [errW_none, errW_some] <;> rfl) | (simp [*, errW_none, errW_some] <;> rfl), by exact bw HB.out⟩

end Go.Proofs.Ytbbbgochcfccgaa.P
