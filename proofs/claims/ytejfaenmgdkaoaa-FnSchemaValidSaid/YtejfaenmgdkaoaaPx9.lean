-- Written by a program of this session (wip/tool).
import Derived.Test.YtejfaenmgdkaoaaPx0
import Derived.Test.YtejfaenmgdkaoaaPx6
import Derived.Test.YtejfaenmgdkaoaaPx7
import Derived.Test.YtejfaenmgdkaoaaPx8
namespace Go.Proofs.Ytejfaenmgdkaoaa.P
open Go.RowKit Go.Proofs.YtejfaenmgdkaoaaW.PrintWords Go.Proofs.YtejfaenmgdkaoaaW.PrintLast Go.Proofs.YtejfaenmgdkaoaaW.PrintMore
attribute [local go_sem] max2_int min2_int max_two min_two max_three min_three max_four min_four   -- for this text's walks alone
set_option linter.unusedVariables false
set_option linter.unusedSimpArgs false

/-! ### impl_SchemaValid: function 12 -/
mutual
def impl_SchemaValid.l0 : Nat → List (List (S83)) → Int → Int → Option (Bool)
 | 0, _, _, _ => none
 | k + 1, x11, x12, x13 => if x13 < x12 then (if 0 ≤ x13 then (if x13 < (x11.length : Int) then (impl_SchemaValid.l1 k (rd_L4 x11 x13) x11 x12 x13 (rd_L4 x11 x13) ((rd_L4 x11 x13).length : Int) 0) else (none)) else (none)) else (some true)
def impl_SchemaValid.l1 : Nat → List (S83) → List (List (S83)) → Int → Int → List (S83) → Int → Int → Option (Bool)
 | 0, _, _, _, _, _, _, _ => none
 | k + 1, x4, x11, x12, x13, x17, x18, x19 => if x19 < x18 then (if 0 ≤ x19 then (if x19 < (x17.length : Int) then ((impl_NameValid.f k ((rd_T83 x17 x19).f0)).bind fun t169 => (if t169 = true then ((impl_in.f ((rd_T83 x17 x19).f1) 1 3).bind fun t170 => (if t170 = true then (if x19 ≤ (x4.length : Int) then ((impl_kindIn.f k (x4.take (x19 : Int).toNat) ((rd_T83 x17 x19).f0)).bind fun t175 => (if t175 = 0 then (impl_SchemaValid.l1 k x4 x11 x12 x13 x17 x18 (wrap64 (x19 + 1))) else (some false))) else (none)) else (some false))) else (some false))) else (none)) else (none)) else (if (x4.length : Int) > 6 then (some false) else (impl_SchemaValid.l0 k x11 x12 (wrap64 (x13 + 1))))
end
def impl_SchemaValid.f (k : Nat) (l0_0 : List (S83)) (l0_1 : List (S83)) : Option (Bool) := (some (([l0_0, l0_1] : List (List (S83))) : List (List (S83)))).bind fun y163 => (impl_SchemaValid.l0 k y163 (y163.length : Int) 0)
theorem impl_SchemaValid.mono_l : ∀ k, (∀ y0 y1 y2, LeO (impl_SchemaValid.l0 k y0 y1 y2) (impl_SchemaValid.l0 (k + 1) y0 y1 y2)) ∧ (∀ y0 y1 y2 y3 y4 y5 y6, LeO (impl_SchemaValid.l1 k y0 y1 y2 y3 y4 y5 y6) (impl_SchemaValid.l1 (k + 1) y0 y1 y2 y3 y4 y5 y6))
 | 0 => ⟨fun _ _ _ r h => by simp [impl_SchemaValid.l0] at h, fun _ _ _ _ _ _ _ r h => by simp [impl_SchemaValid.l1] at h⟩
 | k + 1 => by
  obtain ⟨ih0, ih1⟩ := impl_SchemaValid.mono_l k
  refine ⟨?_, ?_⟩
  ·
   intro y0 y1 y2
   unfold impl_SchemaValid.l0
   repeat' first
   | (with_reducible exact ih0 _ _ _)
   | (with_reducible exact ih1 _ _ _ _ _ _ _)
   | (with_reducible exact impl_NameValid.mono _ _)
   | (with_reducible exact impl_kindIn.mono _ _ _)
   | (with_reducible exact LeO.refl _)
   | (with_reducible exact LeO.none _)
   | (with_reducible refine LeO.ite ?_ ?_)
   | (with_reducible refine LeO.bind ?_ (fun _ => ?_))
   | exact ih0 _ _ _
   | exact ih1 _ _ _ _ _ _ _
   | exact impl_NameValid.mono _ _
   | exact impl_kindIn.mono _ _ _
   | exact LeO.none _
   | refine LeO.ite ?_ ?_
   | refine LeO.bind ?_ (fun _ => ?_)
  ·
   intro y0 y1 y2 y3 y4 y5 y6
   unfold impl_SchemaValid.l1
   repeat' first
   | (with_reducible exact ih0 _ _ _)
   | (with_reducible exact ih1 _ _ _ _ _ _ _)
   | (with_reducible exact impl_NameValid.mono _ _)
   | (with_reducible exact impl_kindIn.mono _ _ _)
   | (with_reducible exact LeO.refl _)
   | (with_reducible exact LeO.none _)
   | (with_reducible refine LeO.ite ?_ ?_)
   | (with_reducible refine LeO.bind ?_ (fun _ => ?_))
   | exact ih0 _ _ _
   | exact ih1 _ _ _ _ _ _ _
   | exact impl_NameValid.mono _ _
   | exact impl_kindIn.mono _ _ _
   | exact LeO.none _
   | refine LeO.ite ?_ ?_
   | refine LeO.bind ?_ (fun _ => ?_)
theorem impl_SchemaValid.mono : ∀ a0 a1 k, LeO (impl_SchemaValid.f k a0 a1) (impl_SchemaValid.f (k + 1) a0 a1) := by
 intro a0 a1 k
 obtain ⟨ih0, ih1⟩ := impl_SchemaValid.mono_l k
 unfold impl_SchemaValid.f
 repeat' first
   | (with_reducible exact ih0 _ _ _)
   | (with_reducible exact ih1 _ _ _ _ _ _ _)
   | (with_reducible exact impl_NameValid.mono _ _)
   | (with_reducible exact impl_kindIn.mono _ _ _)
   | (with_reducible exact LeO.refl _)
   | (with_reducible exact LeO.none _)
   | (with_reducible refine LeO.ite ?_ ?_)
   | (with_reducible refine LeO.bind ?_ (fun _ => ?_))
   | exact ih0 _ _ _
   | exact ih1 _ _ _ _ _ _ _
   | exact impl_NameValid.mono _ _
   | exact impl_kindIn.mono _ _ _
   | exact LeO.none _
   | refine LeO.ite ?_ ?_
   | refine LeO.bind ?_ (fun _ => ?_)
def impl_SchemaValid.T7 : Bool × List (List Nat × List Nat) := (true, [([], []), ([0], [0]), ([1], [1]), ([2], [2]), ([3, 2], [3]), ([4], [4]), ([5, 4], [4, 5]), ([6, 4, 4], [4, 6]), ([7, 4], [4, 7]), ([4, 8], [4, 8]), ([9, 7], [9]), ([10], [10]), ([10], [10]), ([11, 12, 10], [10, 11, 12]), ([10], [10]), ([14, 10], [10, 14]), ([13, 15, 10, 10], [10, 13, 15]), ([16, 10], [10, 16]), ([10, 17], [10, 17])])
def impl_SchemaValid.B7 : List Nat := [0, 1, 3, 7, 15, 31, 63, 127, 255, 511, 1023, 2047, 2047, 8191, 2047, 18431, 65535, 131071, 262143]
theorem impl_SchemaValid.tab7 : rtab .any (opsOf Try.f12 7) = impl_SchemaValid.T7 := by kernel_rfl
theorem impl_SchemaValid.bits7 : waitsOk impl_SchemaValid.T7.2 impl_SchemaValid.B7 = true := by kernel_rfl
abbrev impl_SchemaValid.m0 : Array Bool := #[false, false, false, false, false, false, false, false, false, false, false, false, false, false, false, false, false, false, false]
abbrev impl_SchemaValid.m1 : Array Bool := #[true, false, false, false, false, false, false, false, false, false, false, false, false, false, false, false, false, false, false]
abbrev impl_SchemaValid.m2 : Array Bool := #[true, true, false, false, false, false, false, false, false, false, false, false, false, false, false, false, false, false, false]
abbrev impl_SchemaValid.m3 : Array Bool := #[true, true, true, false, false, false, false, false, false, false, false, false, false, false, false, false, false, false, false]
abbrev impl_SchemaValid.m4 : Array Bool := #[true, true, true, true, false, false, false, false, false, false, false, false, false, false, false, false, false, false, false]
abbrev impl_SchemaValid.m5 : Array Bool := #[true, true, true, true, true, false, false, false, false, false, false, false, false, false, false, false, false, false, false]
abbrev impl_SchemaValid.m6 : Array Bool := #[true, true, true, true, true, true, false, false, false, false, false, false, false, false, false, false, false, false, false]
abbrev impl_SchemaValid.m7 : Array Bool := #[true, true, true, true, true, true, true, false, false, false, false, false, false, false, false, false, false, false, false]
abbrev impl_SchemaValid.m8 : Array Bool := #[true, true, true, true, true, true, true, true, false, false, false, false, false, false, false, false, false, false, false]
abbrev impl_SchemaValid.m9 : Array Bool := #[true, true, true, true, true, true, true, true, true, false, false, false, false, false, false, false, false, false, false]
abbrev impl_SchemaValid.m10 : Array Bool := #[true, true, true, true, true, true, true, true, true, true, false, false, false, false, false, false, false, false, false]
abbrev impl_SchemaValid.m11 : Array Bool := #[true, true, true, true, true, true, true, true, true, true, true, false, false, false, false, false, false, false, false]
abbrev impl_SchemaValid.m12 : Array Bool := #[true, true, true, true, true, true, true, true, true, true, true, true, false, false, false, false, false, false, false]
abbrev impl_SchemaValid.m13 : Array Bool := #[true, true, true, true, true, true, true, true, true, true, true, true, true, false, false, false, false, false, false]
abbrev impl_SchemaValid.m14 : Array Bool := #[true, true, true, true, true, true, true, true, true, true, true, true, true, true, false, false, false, false, false]
abbrev impl_SchemaValid.m15 : Array Bool := #[true, true, true, true, true, true, true, true, true, true, true, true, true, true, true, false, false, false, false]
abbrev impl_SchemaValid.m16 : Array Bool := #[true, true, true, true, true, true, true, true, true, true, true, true, true, true, true, true, false, false, false]
abbrev impl_SchemaValid.m17 : Array Bool := #[true, true, true, true, true, true, true, true, true, true, true, true, true, true, true, true, true, false, false]
abbrev impl_SchemaValid.m18 : Array Bool := #[true, true, true, true, true, true, true, true, true, true, true, true, true, true, true, true, true, true, false]
abbrev impl_SchemaValid.m19 : Array Bool := #[true, true, true, true, true, true, true, true, true, true, true, true, true, true, true, true, true, true, true]
set_option maxHeartbeats 8000000 in
set_option maxRecDepth 100000 in
theorem impl_SchemaValid.calls (k : Nat) (P0_0_ : Nat → Prop) (A0_0 : Option Addr) (c0_0 : Nat) (l0_0 : List (S83)) (P0_1_ : Nat → Prop) (A0_1 : Option Addr) (c0_1 : Nat) (l0_1 : List (S83)) (r : Bool) (w : World) (hs0_0 : Kd.V k83 83 w w.heap.size (fun k_ => P0_0_ k_) (.slice A0_0 l0_0.length c0_0) l0_0) (hs0_1 : Kd.V k83 83 w w.heap.size (fun k_ => P0_1_ k_) (.slice A0_1 l0_1.length c0_1) l0_1) (h : impl_SchemaValid.f k l0_0 l0_1 = some r) :
  Calls Try.prog 12 #[.agg #[.slice A0_0 l0_0.length c0_0, .slice A0_1 l0_1.length c0_1]] w fun e w' => e = .returned (.bool r) ∧ Below w.heap.size w w' := by
 have hu25 := Try.underlying25
 have hu83 := Try.underlying83
 have HO0_0 := Aside0.mk (show Kd.V k83 83 w w.heap.size (fun k_ => ((P0_0_ k_ ∨ P0_1_ k_) ∨ w.heap.size ≤ k_)) (.slice A0_0 l0_0.length c0_0) l0_0 from Kd.V_mono hs0_0 (fun k_ hk => .inl (.inl hk)))
 have HO0_1 := Aside0.mk (show Kd.V k83 83 w w.heap.size (fun k_ => ((P0_0_ k_ ∨ P0_1_ k_) ∨ w.heap.size ≤ k_)) (.slice A0_1 l0_1.length c0_1) l0_1 from Kd.V_mono hs0_1 (fun k_ hk => .inl (.inr hk)))
 have HB := Aside0.mk (Below.refl w.heap.size w)
 have H : ((some (([l0_0, l0_1] : List (List (S83))) : List (List (S83)))).bind fun y163 => (impl_SchemaValid.l0 k y163 (y163.length : Int) 0)) = some r := h
 clear h
 obtain ⟨y163, hy163⟩ : ∃ y_ : List (List (S83)), y_ = (([l0_0, l0_1] : List (List (S83)))) := ⟨_, rfl⟩
 replace H : (impl_SchemaValid.l0 k y163 (y163.length : Int) 0) = some r := by first | (rw [hy163]; with_reducible exact H) | (have H2_ := (Option.bind_some _ _).symm.trans H; rw [hy163]; with_reducible exact H2_) | (have H2_ := (Option.bind_some _ _).symm.trans H; with_reducible exact H2_) | with_reducible exact H | (rw [hy163]; exact H) | exact H
 have Ny163 := Aside0.mk hy163
 clear hy163
 have H' := Aside0.mk H
 clear H
 go_enter Try.func12, Try.ntmps12
 go_wp2_with (first | ((with_reducible refine gate_dst (N := 1) rfl ?_); refine box_event ?hg (N := 1) ?hd (cs := #[.slice A0_0 l0_0.length c0_0, .slice A0_1 l0_1.length c0_1]) (t := 25) ?hr ?_; (case hd => rfl); (case hg => rfl); (case hr => first | (go_simp; done) | (go_simp; rfl)); intro gb162 hg w2 hbox hb; have n0_ := Aside0.mk (Kd.V_below (Kd.V_elderB (by exact Kd.xV HO0_0.out) gb162 (Nat.le_of_eq hg.symm)) hb); have n1_ := Aside0.mk (Kd.V_below (Kd.V_elderB (by exact Kd.xV HO0_1.out) gb162 (Nat.le_of_eq hg.symm)) hb); have n2_ := Aside0.mk (below_step (by exact bw HB.out) hb); have n3_ := Aside0.mk (hbox); have n4_ := Aside0.mk ((by rw [hg]; exact (below_size (by exact bw HB.out)) : w.heap.size ≤ gb162)); have n5_ := Aside0.mk ((by rw [hg]; exact (below_size (by exact bw HB.out)) : w.heap.size ≤ gb162)); clear HO0_0; clear HO0_1; clear HB; have HO0_0 := n0_; have HO0_1 := n1_; have HB := n2_; have BK162 := n3_; have GW162 := n4_; have GE162 := n5_; clear n0_ n1_ n2_ n3_ n4_ n5_; clear hb hbox hg; have hcz3_0 : w2.cell? ⟨gb162, 0, none⟩ = some (.slice A0_0 l0_0.length c0_0) := (blk_cell BK162.out 0).trans rfl; have hcz3_1 : w2.cell? ⟨gb162, 1, none⟩ = some (.slice A0_1 l0_1.length c0_1) := (blk_cell BK162.out 1).trans rfl; have hfz3_0 := blk_frozen BK162.out 0; have hfz3_1 := blk_frozen BK162.out 1) | ((with_reducible refine gate_dst (N := 11) rfl ?_); refine Kd.N_lit (Kd.slice 83 k83) _ 23 ?hg (N' := 11) ?hd (xs := ([l0_0, l0_1] : List (List (S83)))) (inner := [.slice A0_0 l0_0.length c0_0, .slice A0_1 l0_1.length c0_1]) (ok := (fun k_ => ((P0_0_ k_ ∨ P0_1_ k_) ∨ w.heap.size ≤ k_) ∧ k_ ≠ gb162)) (okp := (fun k_ => ((P0_0_ k_ ∨ P0_1_ k_) ∨ w.heap.size ≤ k_) ∧ k_ ≠ gb162)) ?hr ?hp (fun _ hk => hk) ((show ∀ k_, w2.heap.size ≤ k_ → (fun k_ => ((P0_0_ k_ ∨ P0_1_ k_) ∨ w.heap.size ≤ k_) ∧ k_ ≠ gb162) k_ from fun k_ hk => ⟨(.inr (Nat.le_trans (below_size (by exact bw HB.out)) hk)), Kd.freshB (g := gb162) (o := .cells #[.slice A0_0 l0_0.length c0_0, .slice A0_1 l0_1.length c0_1] 25 (0, 0)) (by exact bk BK162.out) k_ hk⟩) _ (Nat.le_refl _)) (Below.refl _ _) (Nat.le_refl _) (by simp) ?_; (case hd => rfl); (case hg => rfl); (case hr => first | (go_simp; done) | (go_simp; rfl)); (case hp => exact (Reps.one (show Kd.FK (Kd.slice 83 k83) _ _ l0_0 [.slice A0_0 l0_0.length c0_0] from (Kd.FK_slice_mk (Kd.V_reads' (Kd.V_mono (ok' := (fun k_ => ((P0_0_ k_ ∨ P0_1_ k_) ∨ w.heap.size ≤ k_) ∧ k_ ≠ gb162)) (HO0_0.out) (fun k_ hk => okp hk))).2.1 (Kd.V_F (Kd.V_mono (ok' := (fun k_ => ((P0_0_ k_ ∨ P0_1_ k_) ∨ w.heap.size ≤ k_) ∧ k_ ≠ gb162)) (HO0_0.out) (fun k_ hk => okp hk))))) (Reps.one (show Kd.FK (Kd.slice 83 k83) _ _ l0_1 [.slice A0_1 l0_1.length c0_1] from (Kd.FK_slice_mk (Kd.V_reads' (Kd.V_mono (ok' := (fun k_ => ((P0_0_ k_ ∨ P0_1_ k_) ∨ w.heap.size ≤ k_) ∧ k_ ≠ gb162)) (HO0_1.out) (fun k_ hk => okp hk))).2.1 (Kd.V_F (Kd.V_mono (ok' := (fun k_ => ((P0_0_ k_ ∨ P0_1_ k_) ∨ w.heap.size ≤ k_) ∧ k_ ≠ gb162)) (HO0_1.out) (fun k_ hk => okp hk))))) (Reps.none _ _)))); intro v164 w4 ho5 hb hg_ hnew_; clear hg_ hnew_; (first | rw [← Ny163.out] at ho5 | (simp only [Int.reduceToNat] at ho5; rw [← Ny163.out] at ho5)); have n0_ := Aside0.mk (Kd.V_elder' (by exact Kd.xV HO0_0.out) (Kd.N_base ho5) hb); have n1_ := Aside0.mk (Kd.V_elder' (by exact Kd.xV HO0_1.out) (Kd.N_base ho5) hb); have n2_ := Aside0.mk (Kd.N_lower ho5 (below_size (by exact bw HB.out))); have n3_ := Aside0.mk (blk_below (g := gb162) (o := .cells #[.slice A0_0 l0_0.length c0_0, .slice A0_1 l0_1.length c0_1] 25 (0, 0)) (by exact bk BK162.out) hb); have n4_ := Aside0.mk (below_step (by exact bw HB.out) hb); clear HO0_0; clear HO0_1; clear BK162; clear HB; have HO0_0 := n0_; have HO0_1 := n1_; have HO165 := n2_; have BK162 := n3_; have HB := n4_; clear n0_ n1_ n2_ n3_ n4_; clear hb ho5; obtain ⟨Ao6, co6, eo6⟩ := Kd.N_slice HO165.out; subst eo6))
 go_loopg [13] k (fun kq v13 w' => ∃ (x13_1 : Int), v13 = .int .i64 x13_1 ∧ Aside0 (impl_SchemaValid.l0 kq y163 (y163.length : Int) x13_1 = some r) ∧ Aside0 (kq ≤ k) ∧ Aside0 (Kd.N (Kd.slice 83 k83) 23 w' w.heap.size (fun k_ => ((P0_0_ k_ ∨ P0_1_ k_) ∨ w.heap.size ≤ k_) ∧ k_ ≠ gb162) (.slice Ao6 y163.length co6) y163) ∧ Aside0 (Kd.V k83 83 w' w.heap.size (fun k_ => ((P0_0_ k_ ∨ P0_1_ k_) ∨ w.heap.size ≤ k_) ∧ some k_ ≠ ((.slice Ao6 y163.length co6) : Value).ownBlock ∧ k_ ≠ gb162) (.slice A0_0 l0_0.length c0_0) l0_0) ∧ Aside0 (Kd.V k83 83 w' w.heap.size (fun k_ => ((P0_0_ k_ ∨ P0_1_ k_) ∨ w.heap.size ≤ k_) ∧ some k_ ≠ ((.slice Ao6 y163.length co6) : Value).ownBlock ∧ k_ ≠ gb162) (.slice A0_1 l0_1.length c0_1) l0_1) ∧ Aside0 (w'.heap[gb162]? = some (.cells #[(.slice A0_0 l0_0.length c0_0), (.slice A0_1 l0_1.length c0_1)] 25 (0, 0))) ∧ Aside0 (Below w.heap.size w w'))
 case atStart => exact ⟨(0), (by first | rfl | (simp; done) | (simp [*]; done)), H', ⟨Nat.le_refl _⟩, ⟨by exact Kd.xN HO165.out⟩, ⟨by (with_reducible repeat (first | apply Kd.V_alloc | apply Kd.V_drewN | apply Kd.V_drew)); exact Kd.V_mono HO0_0.out (fun _ hk => okp hk)⟩, ⟨by (with_reducible repeat (first | apply Kd.V_alloc | apply Kd.V_drewN | apply Kd.V_drew)); exact Kd.V_mono HO0_1.out (fun _ hk => okp hk)⟩, ⟨by exact bk BK162.out⟩, ⟨by exact bw HB.out⟩⟩
 case round =>
  clear H'
  try clear c1
  try clear p2
  try clear hcz3_0
  try clear hcz3_1
  try clear hfz3_0
  try clear hfz3_1
  obtain ⟨x13_1, rfl, HA, HK1, HO_11, HO_163000, HO_163001, BK162, HB⟩ := hrel
  cases gk with
  | zero => exact absurd HA.out (by simp [impl_SchemaValid.l0])
  | succ k1 =>
   have H := HA.out
   clear HA
   simp only [impl_SchemaValid.l0] at H
   by_cases c7 : x13_1 < (y163.length : Int)
   ·
    rw [if_pos c7] at H
    have c7b0 : decide (x13_1 < (y163.length : Int)) = true := decide_eq_true c7
    clear c7
    by_cases c8 : 0 ≤ x13_1
    ·
     rw [if_pos c8] at H
     have c8b0 : decide (0 ≤ x13_1) = true := decide_eq_true c8
     clear c8
     by_cases c9 : x13_1 < (y163.length : Int)
     ·
      rw [if_pos c9] at H
      have c9b0 : decide (x13_1 < (y163.length : Int)) = true := decide_eq_true c9
      clear c9
      have H' := Aside0.mk H
      clear H
      have p166 : 0 ≤ (x13_1 : Int) := of_decide_eq_true (by first | (with_reducible assumption) | assumption)
      have q166 : x13_1 < (y163.length : Int) := of_decide_eq_true (by first | (with_reducible assumption) | assumption)
      obtain ⟨ad166, A166_0, c166_0, e166, hx166_0, hl166_0, hi166_0⟩ := at_L4 (Kd.N_reads' HO_11.out).2.2 x13_1 p166 q166
      cases e166
      obtain ⟨ce166, hce166, hMe166, hcc166⟩ := Kd.N_get HO_11.out [] x13_1 p166 (by first | exact q166 | exact of_decide_eq_true (by first | (with_reducible assumption) | assumption) | (have e_ := (Kd.N_reads' HO_11.out).1; omega))
      obtain ⟨ua166_0, uc166_0, rfl, ul166_0, ge166_0⟩ := Kd.FK_slice_open hMe166
      have hv166_0 := hcc166 0 _ rfl
      rw [Nat.add_zero, show ((Kd.slice 83 k83)).sz = 1 from rfl, Nat.mul_one] at hv166_0
      replace hv166_0 := Option.some.inj (hv166_0.symm.trans hx166_0)
      injection hv166_0 with hva_ hvn_ hvc_
      rw [hva_] at ge166_0
      rw [hvc_] at ul166_0
      have HL166_0 := Aside0.mk (show Kd.V k83 83 _ w.heap.size _ _ (rd_L4 y163 x13_1) from Kd.V_mk ul166_0 ge166_0)
      clear hva_ hvn_ hvc_ ge166_0 ul166_0
      clear hcc166 hce166
      have HR166_0 := Aside0.mk hi166_0
      have HC166_0 := Aside0.mk hl166_0
      clear hi166_0 hl166_0
      replace p166 := eq_true p166
      replace q166 := eq_true q166
      go_wp2
      go_loopg [19] k1 (fun kq v19 w' => ∃ (x19_2 : Int), v19 = .int .i64 x19_2 ∧ Aside0 (impl_SchemaValid.l1 kq (rd_L4 y163 x13_1) y163 (y163.length : Int) x13_1 (rd_L4 y163 x13_1) ((rd_L4 y163 x13_1).length : Int) x19_2 = some r) ∧ Aside0 (kq ≤ k1) ∧ Aside0 (Kd.N (Kd.slice 83 k83) 23 w' w.heap.size (fun k_ => ((P0_0_ k_ ∨ P0_1_ k_) ∨ w.heap.size ≤ k_) ∧ k_ ≠ gb162) (.slice (some ad166) y163.length co6) y163) ∧ Aside0 (Kd.V k83 83 w' w.heap.size (fun k_ => ((P0_0_ k_ ∨ P0_1_ k_) ∨ w.heap.size ≤ k_) ∧ some k_ ≠ ((.slice (some ad166) y163.length co6) : Value).ownBlock ∧ k_ ≠ gb162) (.slice A0_0 l0_0.length c0_0) l0_0) ∧ Aside0 (Kd.V k83 83 w' w.heap.size (fun k_ => ((P0_0_ k_ ∨ P0_1_ k_) ∨ w.heap.size ≤ k_) ∧ some k_ ≠ ((.slice (some ad166) y163.length co6) : Value).ownBlock ∧ k_ ≠ gb162) (.slice A0_1 l0_1.length c0_1) l0_1) ∧ Aside0 (w'.heap[gb162]? = some (.cells #[(.slice A0_0 l0_0.length c0_0), (.slice A0_1 l0_1.length c0_1)] 25 (0, 0))) ∧ Aside0 (Kd.C k83 w' A166_0 (rd_L4 y163 x13_1).length (rd_L4 y163 x13_1)) ∧ Aside0 (Below w.heap.size w w'))
      case atStart => exact ⟨(0), (by first | rfl | (simp; done) | (simp [*]; done)), H', ⟨Nat.le_refl _⟩, ⟨by exact Kd.xN HO_11.out⟩, ⟨by exact Kd.xV HO_163000.out⟩, ⟨by exact Kd.xV HO_163001.out⟩, ⟨by exact bk BK162.out⟩, ⟨by repeat (first | (with_reducible exact HR166_0.out) | (with_reducible refine Kd.C_alloc ?_ _) | (with_reducible refine Kd.C_drewN ?_ _) | (with_reducible refine Kd.C_drew ?_) | exact HR166_0.out)⟩, ⟨by exact bw HB.out⟩⟩
      case round =>
       clear H'
       try clear c1
       try clear p1
       try clear q1
       try clear hx1
       try clear p2
       try clear c7
       try clear c7b0
       try clear c8
       try clear c8b0
       try clear c9
       try clear c9b0
       try clear hcz3_0
       try clear hcz3_1
       try clear hfz3_0
       try clear hfz3_1
       try clear hx166_0
       try clear p166
       try clear p2
       try clear q166
       obtain ⟨x19_2, rfl, HA, HK2, HO_11, HO_163000, HO_163001, BK162, HR166_0, HB⟩ := hrel
       cases gk with
       | zero => exact absurd HA.out (by simp [impl_SchemaValid.l1])
       | succ k2 =>
        have H := HA.out
        clear HA
        simp only [impl_SchemaValid.l1] at H
        by_cases c10 : x19_2 < ((rd_L4 y163 x13_1).length : Int)
        ·
         rw [if_pos c10] at H
         have c10b0 : decide (x19_2 < ((rd_L4 y163 x13_1).length : Int)) = true := decide_eq_true c10
         clear c10
         by_cases c11 : 0 ≤ x19_2
         ·
          rw [if_pos c11] at H
          have c11b0 : decide (0 ≤ x19_2) = true := decide_eq_true c11
          clear c11
          by_cases c12 : x19_2 < ((rd_L4 y163 x13_1).length : Int)
          ·
           rw [if_pos c12] at H
           have c12b0 : decide (x19_2 < ((rd_L4 y163 x13_1).length : Int)) = true := decide_eq_true c12
           clear c12
           replace H := Option.bind_eq_some_iff.mp H
           obtain ⟨t169, A130, H⟩ := H
           replace H : (if t169 = true then ((impl_in.f ((rd_T83 (rd_L4 y163 x13_1) x19_2).f1) 1 3).bind fun t170 => (if t170 = true then (if x19_2 ≤ ((rd_L4 y163 x13_1).length : Int) then ((impl_kindIn.f k2 ((rd_L4 y163 x13_1).take (x19_2 : Int).toNat) ((rd_T83 (rd_L4 y163 x13_1) x19_2).f0)).bind fun t175 => (if t175 = 0 then (impl_SchemaValid.l1 k2 (rd_L4 y163 x13_1) y163 (y163.length : Int) x13_1 (rd_L4 y163 x13_1) ((rd_L4 y163 x13_1).length : Int) (wrap64 (x19_2 + 1))) else (some false))) else (none)) else (some false))) else (some false)) = some r := H
           have A13 := Aside0.mk A130
           clear A130
           by_cases c14 : t169 = true
           ·
            subst c14
            have H1 : ((impl_in.f ((rd_T83 (rd_L4 y163 x13_1) x19_2).f1) 1 3).bind fun t170 => (if t170 = true then (if x19_2 ≤ ((rd_L4 y163 x13_1).length : Int) then ((impl_kindIn.f k2 ((rd_L4 y163 x13_1).take (x19_2 : Int).toNat) ((rd_T83 (rd_L4 y163 x13_1) x19_2).f0)).bind fun t175 => (if t175 = 0 then (impl_SchemaValid.l1 k2 (rd_L4 y163 x13_1) y163 (y163.length : Int) x13_1 (rd_L4 y163 x13_1) ((rd_L4 y163 x13_1).length : Int) (wrap64 (x19_2 + 1))) else (some false))) else (none)) else (some false))) = some r := by rw [if_pos rfl] at H; exact H
            clear H
            have H := H1
            clear H1
            replace H := Option.bind_eq_some_iff.mp H
            obtain ⟨t170, A150, H⟩ := H
            replace H : (if t170 = true then (if x19_2 ≤ ((rd_L4 y163 x13_1).length : Int) then ((impl_kindIn.f k2 ((rd_L4 y163 x13_1).take (x19_2 : Int).toNat) ((rd_T83 (rd_L4 y163 x13_1) x19_2).f0)).bind fun t175 => (if t175 = 0 then (impl_SchemaValid.l1 k2 (rd_L4 y163 x13_1) y163 (y163.length : Int) x13_1 (rd_L4 y163 x13_1) ((rd_L4 y163 x13_1).length : Int) (wrap64 (x19_2 + 1))) else (some false))) else (none)) else (some false)) = some r := H
            have A15 := Aside0.mk A150
            clear A150
            by_cases c16 : t170 = true
            ·
             subst c16
             have H1 : (if x19_2 ≤ ((rd_L4 y163 x13_1).length : Int) then ((impl_kindIn.f k2 ((rd_L4 y163 x13_1).take (x19_2 : Int).toNat) ((rd_T83 (rd_L4 y163 x13_1) x19_2).f0)).bind fun t175 => (if t175 = 0 then (impl_SchemaValid.l1 k2 (rd_L4 y163 x13_1) y163 (y163.length : Int) x13_1 (rd_L4 y163 x13_1) ((rd_L4 y163 x13_1).length : Int) (wrap64 (x19_2 + 1))) else (some false))) else (none)) = some r := by rw [if_pos rfl] at H; exact H
             clear H
             have H := H1
             clear H1
             have c17b0 := eq_true (of_decide_eq_true (by first | (with_reducible assumption) | assumption) : 0 ≤ x19_2)
             by_cases c18 : x19_2 ≤ ((rd_L4 y163 x13_1).length : Int)
             ·
              rw [if_pos c18] at H
              have c18b0 := eq_true c18
              have c18b1 : decide (x19_2 ≤ ((rd_L4 y163 x13_1).length : Int)) = true := decide_eq_true c18
              clear c18
              obtain ⟨y171, hy171⟩ : ∃ y_ : List (S83), y_ = ((rd_L4 y163 x13_1).take (x19_2 : Int).toNat) := ⟨_, rfl⟩
              replace H : ((impl_kindIn.f k2 y171 ((rd_T83 (rd_L4 y163 x13_1) x19_2).f0)).bind fun t175 => (if t175 = 0 then (impl_SchemaValid.l1 k2 (rd_L4 y163 x13_1) y163 (y163.length : Int) x13_1 (rd_L4 y163 x13_1) ((rd_L4 y163 x13_1).length : Int) (wrap64 (x19_2 + 1))) else (some false))) = some r := by first | (rw [hy171]; with_reducible exact H) | (have H2_ := (Option.bind_some _ _).symm.trans H; rw [hy171]; with_reducible exact H2_) | (have H2_ := (Option.bind_some _ _).symm.trans H; with_reducible exact H2_) | with_reducible exact H | (rw [hy171]; exact H) | exact H
              have Ny171 := Aside0.mk hy171
              clear hy171
              replace H := Option.bind_eq_some_iff.mp H
              obtain ⟨t175, A190, H⟩ := H
              replace H : (if t175 = 0 then (impl_SchemaValid.l1 k2 (rd_L4 y163 x13_1) y163 (y163.length : Int) x13_1 (rd_L4 y163 x13_1) ((rd_L4 y163 x13_1).length : Int) (wrap64 (x19_2 + 1))) else (some false)) = some r := H
              have A19 := Aside0.mk A190
              clear A190
              by_cases c20 : t175 = 0
              ·
               rw [if_pos c20] at H
               have c20b0 : (t175 == 0) = true := beq_iff_eq.mpr c20
               have c20b1 : (t175 != 0) = false := bne_eq_false_iff_eq.mpr c20
               clear c20
               have H' := Aside0.mk H
               clear H
               have p167 : 0 ≤ (x19_2 : Int) := of_decide_eq_true (by first | (with_reducible assumption) | assumption)
               have q167 : x19_2 < ((rd_L4 y163 x13_1).length : Int) := of_decide_eq_true (by first | (with_reducible assumption) | assumption)
               obtain ⟨ad167, e167, hx167_0, hx167_1⟩ := at_T83 HR166_0.out x19_2 p167 q167
               cases e167
               first | replace hx167_0 := (HB.out.cell (World.block_lt_of_cell? w _ hx167_0)).trans hx167_0 | skip
               first | replace hx167_1 := (HB.out.cell (World.block_lt_of_cell? w _ hx167_1)).trans hx167_1 | skip
               replace p167 := eq_true p167
               replace q167 := eq_true q167
               try go_wp2_with (first | ((with_reducible refine gate_dst (N := 6) rfl ?_); refine box_event ?hg (N := 6) ?hd (cs := #[.string (⟨#[]⟩ : ByteArray), .int .i64 0]) (t := 83) ?hr ?_; (case hd => rfl); (case hg => rfl); (case hr => first | (go_simp; done) | (go_simp; rfl)); intro gb168 hg w21 hbox hb; have n0_ := Aside0.mk (Kd.N_below (Kd.N_elderB (by exact Kd.xN HO_11.out) gb168 (Nat.le_of_eq hg.symm)) hb); have n1_ := Aside0.mk (Kd.V_below (Kd.V_elderB (by exact Kd.xV HO_163000.out) gb168 (Nat.le_of_eq hg.symm)) hb); have n2_ := Aside0.mk (Kd.V_below (Kd.V_elderB (by exact Kd.xV HO_163001.out) gb168 (Nat.le_of_eq hg.symm)) hb); have n3_ := Aside0.mk ((⟨_, by repeat (first | (with_reducible exact HR166_0.out) | (with_reducible refine Kd.C_alloc ?_ _) | (with_reducible refine Kd.C_drewN ?_ _) | (with_reducible refine Kd.C_drew ?_) | exact HR166_0.out), Nat.le_of_eq hg.symm, hb⟩ : ∃ W0_ : World, Kd.C k83 W0_ (some ad167) (rd_L4 y163 x13_1).length (rd_L4 y163 x13_1) ∧ W0_.heap.size ≤ gb168 ∧ Below W0_.heap.size W0_ w21)); have n4_ := Aside0.mk (blk_below (g := gb162) (o := .cells #[.slice A0_0 l0_0.length c0_0, .slice A0_1 l0_1.length c0_1] 25 (0, 0)) (by exact bk BK162.out) hb); have n5_ := Aside0.mk (Kd.C_below (by repeat (first | (with_reducible exact HR166_0.out) | (with_reducible refine Kd.C_alloc ?_ _) | (with_reducible refine Kd.C_drewN ?_ _) | (with_reducible refine Kd.C_drew ?_) | exact HR166_0.out)) hb); have n6_ := Aside0.mk (below_step (by exact bw HB.out) hb); have n7_ := Aside0.mk (hbox); have n8_ := Aside0.mk ((by rw [hg]; exact (below_size (by exact bw HB.out)) : w.heap.size ≤ gb168)); have n9_ := Aside0.mk ((by rw [hg]; exact (below_size (by exact bw HB.out)) : w.heap.size ≤ gb168)); have n10_ := Aside0.mk ((by rw [hg]; exact Nat.ne_of_lt (blk_lt (g := gb162) (o := .cells #[.slice A0_0 l0_0.length c0_0, .slice A0_1 l0_1.length c0_1] 25 (0, 0)) (by exact bk BK162.out)) : gb162 ≠ gb168)); have n11_ := Aside0.mk ((by rw [hg]; exact Nat.ne_of_gt (blk_lt (g := gb162) (o := .cells #[.slice A0_0 l0_0.length c0_0, .slice A0_1 l0_1.length c0_1] 25 (0, 0)) (by exact bk BK162.out)) : gb168 ≠ gb162)); clear HO_11; clear HO_163000; clear HO_163001; clear BK162; clear HR166_0; clear HB; have HO_11 := n0_; have HO_163000 := n1_; have HO_163001 := n2_; have SB168_HR166_0 := n3_; have BK162 := n4_; have HR166_0 := n5_; have HB := n6_; have BK168 := n7_; have GW168 := n8_; have GE168 := n9_; have NB162_168 := n10_; have NB168_162 := n11_; clear n0_ n1_ n2_ n3_ n4_ n5_ n6_ n7_ n8_ n9_ n10_ n11_; clear hb hbox hg; have hnb22 := NB168_162.out; have hnc22 := NB162_168.out; have hcz23_0 : w21.cell? ⟨gb168, 0, none⟩ = some (.string (⟨#[]⟩ : ByteArray)) := (blk_cell BK168.out 0).trans rfl; have hcz23_1 : w21.cell? ⟨gb168, 1, none⟩ = some (.int .i64 0) := (blk_cell BK168.out 1).trans rfl; have hfz23_0 := blk_frozen BK168.out 0; have hfz23_1 := blk_frozen BK168.out 1))
               have n0_ : Aside0 (Kd.N (Kd.slice 83 k83) 23 ((w21.setCell ⟨gb168, 0, none⟩ (.string ((rd_T83 (rd_L4 y163 x13_1) x19_2).f0))).setCell ⟨gb168, 1, none⟩ (.int .i64 ((rd_T83 (rd_L4 y163 x13_1) x19_2).f1))) w.heap.size (fun k_ => ((P0_0_ k_ ∨ P0_1_ k_) ∨ w.heap.size ≤ k_) ∧ k_ ≠ gb162 ∧ k_ ≠ gb168) (.slice (some ad166) y163.length co6) y163) := ⟨by (with_reducible repeat (first | apply Kd.N_alloc | apply Kd.N_drewN | apply Kd.N_drew)); exact Kd.N_mono (Kd.N_far (p := ⟨gb168, 1, none⟩) (Kd.N_far (p := ⟨gb168, 0, none⟩) (Kd.N_mono HO_11.out (fun k_ hk => (⟨hk, okp hk⟩ : _ ∧ k_ ≠ gb168))) (fun _ hk => hk.2) (.string ((rd_T83 (rd_L4 y163 x13_1) x19_2).f0))) (fun _ hk => hk.2) (.int .i64 ((rd_T83 (rd_L4 y163 x13_1) x19_2).f1))) (fun _ hk => okp hk)⟩
               have n1_ : Aside0 (Kd.V k83 83 ((w21.setCell ⟨gb168, 0, none⟩ (.string ((rd_T83 (rd_L4 y163 x13_1) x19_2).f0))).setCell ⟨gb168, 1, none⟩ (.int .i64 ((rd_T83 (rd_L4 y163 x13_1) x19_2).f1))) w.heap.size (fun k_ => ((P0_0_ k_ ∨ P0_1_ k_) ∨ w.heap.size ≤ k_) ∧ some k_ ≠ (.slice (some ad166) y163.length co6 : Value).ownBlock ∧ k_ ≠ gb162 ∧ k_ ≠ gb168) (.slice A0_0 l0_0.length c0_0) l0_0) := ⟨by (with_reducible repeat (first | apply Kd.V_alloc | apply Kd.V_drewN | apply Kd.V_drew)); exact Kd.V_mono (Kd.V_far (p := ⟨gb168, 1, none⟩) (Kd.V_far (p := ⟨gb168, 0, none⟩) (Kd.V_mono HO_163000.out (fun k_ hk => (⟨hk, okp hk⟩ : _ ∧ k_ ≠ gb168))) (fun _ hk => hk.2) (.string ((rd_T83 (rd_L4 y163 x13_1) x19_2).f0))) (fun _ hk => hk.2) (.int .i64 ((rd_T83 (rd_L4 y163 x13_1) x19_2).f1))) (fun _ hk => okp hk)⟩
               have n2_ : Aside0 (Kd.V k83 83 ((w21.setCell ⟨gb168, 0, none⟩ (.string ((rd_T83 (rd_L4 y163 x13_1) x19_2).f0))).setCell ⟨gb168, 1, none⟩ (.int .i64 ((rd_T83 (rd_L4 y163 x13_1) x19_2).f1))) w.heap.size (fun k_ => ((P0_0_ k_ ∨ P0_1_ k_) ∨ w.heap.size ≤ k_) ∧ some k_ ≠ (.slice (some ad166) y163.length co6 : Value).ownBlock ∧ k_ ≠ gb162 ∧ k_ ≠ gb168) (.slice A0_1 l0_1.length c0_1) l0_1) := ⟨by (with_reducible repeat (first | apply Kd.V_alloc | apply Kd.V_drewN | apply Kd.V_drew)); exact Kd.V_mono (Kd.V_far (p := ⟨gb168, 1, none⟩) (Kd.V_far (p := ⟨gb168, 0, none⟩) (Kd.V_mono HO_163001.out (fun k_ hk => (⟨hk, okp hk⟩ : _ ∧ k_ ≠ gb168))) (fun _ hk => hk.2) (.string ((rd_T83 (rd_L4 y163 x13_1) x19_2).f0))) (fun _ hk => hk.2) (.int .i64 ((rd_T83 (rd_L4 y163 x13_1) x19_2).f1))) (fun _ hk => okp hk)⟩
               have n3_ : Aside0 (((w21.setCell ⟨gb168, 0, none⟩ (.string ((rd_T83 (rd_L4 y163 x13_1) x19_2).f0))).setCell ⟨gb168, 1, none⟩ (.int .i64 ((rd_T83 (rd_L4 y163 x13_1) x19_2).f1))).heap[gb162]? = some (.cells #[.slice A0_0 l0_0.length c0_0, .slice A0_1 l0_1.length c0_1] 25 (0, 0))) := ⟨by (with_reducible repeat (first | refine blk_drewN ?_ _ | refine blk_drew ?_ | refine blk_alloc ?_ _)); refine blk_far ?_ NB162_168.out _; (with_reducible repeat (first | refine blk_drewN ?_ _ | refine blk_drew ?_ | refine blk_alloc ?_ _)); refine blk_far ?_ NB162_168.out _; exact bk BK162.out⟩
               have n4_ : Aside0 (((w21.setCell ⟨gb168, 0, none⟩ (.string ((rd_T83 (rd_L4 y163 x13_1) x19_2).f0))).setCell ⟨gb168, 1, none⟩ (.int .i64 ((rd_T83 (rd_L4 y163 x13_1) x19_2).f1))).heap[gb168]? = some (.cells #[.string ((rd_T83 (rd_L4 y163 x13_1) x19_2).f0), .int .i64 ((rd_T83 (rd_L4 y163 x13_1) x19_2).f1)] 83 (0, 0))) := ⟨by (with_reducible repeat (first | refine blk_drewN ?_ _ | refine blk_drew ?_ | refine blk_alloc ?_ _)); refine blk_put (cs := #[.string ((rd_T83 (rd_L4 y163 x13_1) x19_2).f0), .int .i64 0]) ?_ 1 _ rfl; (with_reducible repeat (first | refine blk_drewN ?_ _ | refine blk_drew ?_ | refine blk_alloc ?_ _)); refine blk_put (cs := #[.string (⟨#[]⟩ : ByteArray), .int .i64 0]) ?_ 0 _ rfl; exact bk BK168.out⟩
               have n5_ : Aside0 (Below w.heap.size w ((w21.setCell ⟨gb168, 0, none⟩ (.string ((rd_T83 (rd_L4 y163 x13_1) x19_2).f0))).setCell ⟨gb168, 1, none⟩ (.int .i64 ((rd_T83 (rd_L4 y163 x13_1) x19_2).f1)))) := ⟨by exact bw HB.out⟩
               have n6_ : Aside0 (Kd.C k83 ((w21.setCell ⟨gb168, 0, none⟩ (.string ((rd_T83 (rd_L4 y163 x13_1) x19_2).f0))).setCell ⟨gb168, 1, none⟩ (.int .i64 ((rd_T83 (rd_L4 y163 x13_1) x19_2).f1))) (some ad167) (rd_L4 y163 x13_1).length (rd_L4 y163 x13_1)) := ⟨(let ⟨W0_, h1_, h2_, h3_⟩ := SB168_HR166_0.out; Kd.C_below h1_ (by repeat (first | exact h3_ | refine below_set ?_ (Nat.le_trans h2_ (by first | exact Nat.le_refl _ | exact Nat.le_of_eq rfl)))))⟩
               (try clear HO_11)
               (try clear HO_163000)
               (try clear HO_163001)
               (try clear BK162)
               (try clear BK168)
               (try clear HB)
               (try clear HR166_0)
               generalize ((w21.setCell ⟨gb168, 0, none⟩ (.string ((rd_T83 (rd_L4 y163 x13_1) x19_2).f0))).setCell ⟨gb168, 1, none⟩ (.int .i64 ((rd_T83 (rd_L4 y163 x13_1) x19_2).f1))) = w24 at n0_ n1_ n2_ n3_ n4_ n5_ n6_ ⊢
               have HO_11 := n0_
               have HO_163000 := n1_
               have HO_163001 := n2_
               have BK162 := n3_
               have BK168 := n4_
               have HB := n5_
               have HR166_0 := n6_
               clear n0_ n1_ n2_ n3_ n4_ n5_ n6_
               have n0_ := Aside0.mk (Kd.N_drew HO_11.out)
               have n1_ := Aside0.mk (Kd.V_drew HO_163000.out)
               have n2_ := Aside0.mk (Kd.V_drew HO_163001.out)
               have n3_ := Aside0.mk (blk_drew BK162.out)
               have n4_ := Aside0.mk (blk_drew BK168.out)
               have n5_ := Aside0.mk (Kd.C_drew HR166_0.out)
               have n6_ := Aside0.mk (below_drew1 HB.out)
               clear HO_11
               clear HO_163000
               clear HO_163001
               clear BK162
               clear BK168
               clear HR166_0
               clear HB
               have HO_11 := n0_
               have HO_163000 := n1_
               have HO_163001 := n2_
               have BK162 := n3_
               have BK168 := n4_
               have HR166_0 := n5_
               have HB := n6_
               clear n0_ n1_ n2_ n3_ n4_ n5_ n6_
               refine start_ (n := 19) (S := fun w' => w'.cell? ⟨gb168, 0, none⟩ = some (.string ((rd_T83 (rd_L4 y163 x13_1) x19_2).f0)) ∧ w'.cell? ⟨gb168, 1, none⟩ = some (.int .i64 ((rd_T83 (rd_L4 y163 x13_1) x19_2).f1))) (ds := []) impl_SchemaValid.m0 (by kernel_rfl) rfl rfl ⟨(blk_cell BK168.out 0).trans rfl, (blk_cell BK168.out 1).trans rfl⟩ (fun hHeld => ?_); refine with_tabW impl_SchemaValid.tab7 impl_SchemaValid.bits7 (fun HT_ HW_ => ?_)
               generalize w24.drew = w25 at HO_11 HO_163000 HO_163001 BK162 BK168 HR166_0 HB hHeld ⊢
               refine pure_ (i := 0) (N := some 24) (v := ?_) (a' := ?_) impl_SchemaValid.m1 rfl rfl (any_of HT_.out (by kernel_rfl)) (fun _ _ _ h => h) (Or.inl ⟨by rfl, ?_⟩) ?_ ?_
               rotate_left
               ·
                intro w'
                go_simp
                with_reducible rfl
               rotate_left
               ·
                simp only [Act.put, List.setIfInBounds_toArray, List.set_cons_zero, List.set_cons_succ, i64_w, i32_w]
                rfl
               refine take_ (i := 1) (N := some 25) (v := ?_) (a' := ?_) impl_SchemaValid.m2 rfl rfl (take_ofW HT_.out HW_.out (by kernel_rfl)) (fun _ _ _ h => h) (Or.inl ⟨by rfl, ?_⟩) hHeld ?_ ?_
               rotate_left
               ·
                rintro w' ⟨s0, s1⟩
                go_simp
                with_reducible rfl
               rotate_left
               ·
                simp only [Act.put, List.setIfInBounds_toArray, List.set_cons_zero, List.set_cons_succ, i64_w, i32_w]
                rfl
               refine one_ (i := 2) (N := some 26) impl_SchemaValid.m3 rfl rfl (one_of HT_.out (by kernel_rfl)) (by decide) (fun K hK => ?_)
               refine goes_ Try.func43 (by kernel_rfl) rfl #[.string ((rd_T83 (rd_L4 y163 x13_1) x19_2).f0)] (by rfl) rfl rfl (by (try simp only [List.map_toArray, List.map_cons, List.map_nil]); first | done | rfl | (simp only [List.length_drop, List.length_take]; rfl)) ?_
               with_reducible refine (impl_NameValid.calls k2 ((rd_T83 (rd_L4 y163 x13_1) x19_2).f0) true _ A13.out).mono ?_
               rintro e w' ⟨rfl, ⟨nd, rfl⟩⟩
               refine ⟨_, rfl, ?_⟩
               refine hK.out _ _ ⟨(blk_cell BK168.out 0).trans rfl, (blk_cell BK168.out 1).trans rfl⟩ (fun hHeld => ?_)
               clear hK K
               refine norm_ (a' := ?_) ?_ ?_
               rotate_left
               ·
                show Act.put _ (some 26) _ = _
                simp only [Act.put, List.setIfInBounds_toArray, List.set_cons_zero, List.set_cons_succ, i64_w, i32_w]
                rfl
               refine pure_ (i := 3) (N := some 27) (v := ?_) (a' := ?_) impl_SchemaValid.m4 rfl rfl (any_of HT_.out (by kernel_rfl)) (fun _ _ _ h => h) (Or.inl ⟨by rfl, ?_⟩) ?_ ?_
               rotate_left
               ·
                intro w'
                go_simp
                with_reducible rfl
               rotate_left
               ·
                simp only [Act.put, List.setIfInBounds_toArray, List.set_cons_zero, List.set_cons_succ, i64_w, i32_w]
                rfl
               refine pure_ (i := 4) (N := some 28) (v := ?_) (a' := ?_) impl_SchemaValid.m5 rfl rfl (any_of HT_.out (by kernel_rfl)) (fun _ _ _ h => h) (Or.inl ⟨by rfl, ?_⟩) ?_ ?_
               rotate_left
               ·
                intro w'
                go_simp
                with_reducible rfl
               rotate_left
               ·
                simp only [Act.put, List.setIfInBounds_toArray, List.set_cons_zero, List.set_cons_succ, i64_w, i32_w]
                rfl
               refine pure_ (i := 5) (N := some 29) (v := ?_) (a' := ?_) impl_SchemaValid.m6 rfl rfl (any_of HT_.out (by kernel_rfl)) (fun _ _ _ h => h) (Or.inl ⟨by rfl, ?_⟩) ?_ ?_
               rotate_left
               ·
                intro w'
                go_simp
                with_reducible rfl
               rotate_left
               ·
                simp only [Act.put, List.setIfInBounds_toArray, List.set_cons_zero, List.set_cons_succ, i64_w, i32_w]
                rfl
               refine take_ (i := 6) (N := some 30) (v := ?_) (a' := ?_) impl_SchemaValid.m7 rfl rfl (take_ofW HT_.out HW_.out (by kernel_rfl)) (fun _ _ _ h => h) (Or.inl ⟨by rfl, ?_⟩) hHeld ?_ ?_
               rotate_left
               ·
                rintro w' ⟨s0, s1⟩
                go_simp
                with_reducible rfl
               rotate_left
               ·
                simp only [Act.put, List.setIfInBounds_toArray, List.set_cons_zero, List.set_cons_succ, i64_w, i32_w]
                rfl
               refine one_ (i := 7) (N := some 31) impl_SchemaValid.m8 rfl rfl (one_of HT_.out (by kernel_rfl)) (by decide) (fun K hK => ?_)
               refine goes_ Try.func44 (by kernel_rfl) rfl #[.int .i64 ((rd_T83 (rd_L4 y163 x13_1) x19_2).f1), .int .i64 1, .int .i64 3] (by rfl) rfl rfl (by (try simp only [List.map_toArray, List.map_cons, List.map_nil]); first | done | rfl | (simp only [List.length_drop, List.length_take]; rfl)) ?_
               with_reducible refine (impl_in.calls ((rd_T83 (rd_L4 y163 x13_1) x19_2).f1) 1 3 true _ A15.out).mono ?_
               rintro e w' ⟨rfl, ⟨nd, rfl⟩⟩
               refine ⟨_, rfl, ?_⟩
               have q26 : (x19_2 : Int) ≤ (((rd_L4 y163 x13_1).length : Int) : Int) := of_decide_eq_true (by first | (with_reducible assumption) | assumption)
               obtain ⟨i026, hi026, _, hsz26, _⟩ := info_parts info83
               have hroom26 : (rd_L4 y163 x13_1).length ≤ c166_0 := HC166_0.out
               have hC26 : Kd.C k83 _ (some ad167) (rd_L4 y163 x13_1).length (rd_L4 y163 x13_1) := HR166_0.out
               have hcut26 := cut_to (P := Try.prog) 23 83 .i64 Try.underlying23 hi026 (some ad167) (rd_L4 y163 x13_1).length c166_0 x19_2 (of_decide_eq_true (by first | (with_reducible assumption) | assumption)) q26 hroom26
               have hr26 := Kd.C_take (m := (x19_2 : Int).toNat) hC26 (by omega)
               have hy26 : y171.length = (x19_2 : Int).toNat := (by rw [Ny171.out, List.length_take]; omega)
               rw [← Ny171.out] at hr26
               rw [← hy26] at hcut26
               have HR174 := Aside0.mk hr26
               have HC174 := Aside0.mk (show y171.length ≤ c166_0 from by omega)
               clear hr26 hC26 hroom26 hi026 hsz26
               have KY26 := Aside0.mk hy26
               clear hy26
               replace q26 := eq_true q26
               refine hK.out _ _ ⟨(blk_cell BK168.out 0).trans rfl, (blk_cell BK168.out 1).trans rfl⟩ (fun hHeld => ?_)
               clear hK K
               refine norm_ (a' := ?_) ?_ ?_
               rotate_left
               ·
                show Act.put _ (some 31) _ = _
                simp only [Act.put, List.setIfInBounds_toArray, List.set_cons_zero, List.set_cons_succ, i64_w, i32_w]
                rfl
               refine pure_ (i := 8) (N := some 32) (v := ?_) (a' := ?_) impl_SchemaValid.m9 rfl rfl (any_of HT_.out (by kernel_rfl)) (fun _ _ _ h => h) (Or.inl ⟨by rfl, ?_⟩) ?_ ?_
               rotate_left
               ·
                intro w'
                go_simp
                with_reducible rfl
               rotate_left
               ·
                simp only [Act.put, List.setIfInBounds_toArray, List.set_cons_zero, List.set_cons_succ, i64_w, i32_w]
                rfl
               refine pure_ (i := 9) (N := some 33) (v := ?_) (a' := ?_) impl_SchemaValid.m10 rfl rfl (any_of HT_.out (by kernel_rfl)) (fun _ _ _ h => h) (Or.inl ⟨by rfl, ?_⟩) ?_ ?_
               rotate_left
               ·
                intro w'
                go_simp
                with_reducible rfl
               rotate_left
               ·
                simp only [Act.put, List.setIfInBounds_toArray, List.set_cons_zero, List.set_cons_succ, i64_w, i32_w]
                rfl
               refine pure_ (i := 10) (N := some 34) (v := ?_) (a' := ?_) impl_SchemaValid.m11 rfl rfl (any_of HT_.out (by kernel_rfl)) (fun _ _ _ h => h) (Or.inl ⟨by rfl, ?_⟩) ?_ ?_
               rotate_left
               ·
                intro w'
                go_simp
                with_reducible rfl
               rotate_left
               ·
                simp only [Act.put, List.setIfInBounds_toArray, List.set_cons_zero, List.set_cons_succ, i64_w, i32_w]
                rfl
               refine pure_ (i := 11) (N := some 35) (v := ?_) (a' := ?_) impl_SchemaValid.m12 rfl rfl (any_of HT_.out (by kernel_rfl)) (fun _ _ _ h => h) (Or.inl ⟨by rfl, ?_⟩) ?_ ?_
               rotate_left
               ·
                intro w'
                go_simp
                with_reducible rfl
               rotate_left
               ·
                simp only [Act.put, List.setIfInBounds_toArray, List.set_cons_zero, List.set_cons_succ, i64_w, i32_w]
                rfl
               refine pure_ (i := 12) (N := some 36) (v := ?_) (a' := ?_) impl_SchemaValid.m13 rfl rfl (any_of HT_.out (by kernel_rfl)) (fun _ _ _ h => h) (Or.inl ⟨by rfl, ?_⟩) ?_ ?_
               rotate_left
               ·
                intro w'
                go_simp
                with_reducible rfl
               rotate_left
               ·
                simp only [Act.put, List.setIfInBounds_toArray, List.set_cons_zero, List.set_cons_succ, i64_w, i32_w]
                rfl
               refine pure_ (i := 13) (N := some 37) (v := ?_) (a' := ?_) impl_SchemaValid.m14 rfl rfl (any_of HT_.out (by kernel_rfl)) (fun _ _ _ h => h) (Or.inl ⟨by rfl, ?_⟩) ?_ ?_
               rotate_left
               ·
                intro w'
                go_simp
                with_reducible rfl
               rotate_left
               ·
                simp only [Act.put, List.setIfInBounds_toArray, List.set_cons_zero, List.set_cons_succ, i64_w, i32_w]
                rfl
               refine pure_ (i := 14) (N := some 38) (v := ?_) (a' := ?_) impl_SchemaValid.m15 rfl rfl (any_of HT_.out (by kernel_rfl)) (fun _ _ _ h => h) (Or.inl ⟨by rfl, ?_⟩) ?_ ?_
               rotate_left
               ·
                intro w'
                go_simp
                with_reducible rfl
               rotate_left
               ·
                simp only [Act.put, List.setIfInBounds_toArray, List.set_cons_zero, List.set_cons_succ, i64_w, i32_w]
                rfl
               refine take_ (i := 15) (N := some 39) (v := ?_) (a' := ?_) impl_SchemaValid.m16 rfl rfl (take_ofW HT_.out HW_.out (by kernel_rfl)) (fun _ _ _ h => h) (Or.inl ⟨by rfl, ?_⟩) hHeld ?_ ?_
               rotate_left
               ·
                rintro w' ⟨s0, s1⟩
                go_simp
                with_reducible rfl
               rotate_left
               ·
                simp only [Act.put, List.setIfInBounds_toArray, List.set_cons_zero, List.set_cons_succ, i64_w, i32_w]
                rfl
               refine one_ (i := 16) (N := some 40) impl_SchemaValid.m17 rfl rfl (one_of HT_.out (by kernel_rfl)) (by decide) (fun K hK => ?_)
               refine goes_ Try.func45 (by kernel_rfl) rfl #[.slice (some ad167) y171.length c166_0, .string ((rd_T83 (rd_L4 y163 x13_1) x19_2).f0)] (by rfl) rfl rfl (by (try simp only [List.map_toArray, List.map_cons, List.map_nil]); first | done | rfl | (simp only [List.length_drop, List.length_take]; rfl)) ?_
               with_reducible refine (impl_kindIn.calls k2 _ _ y171 ((rd_T83 (rd_L4 y163 x13_1) x19_2).f0) t175 _ ?side1 ?side2 A19.out).mono ?_
               (case side1 => repeat (first | exact (Kd.C_below HR174.out (by exact bw HB.out)) | exact HR174.out | (with_reducible refine Kd.C_alloc ?_ _) | (with_reducible refine Kd.C_drewN ?_ _) | (with_reducible refine Kd.C_drew ?_)))
               (case side2 => exact HC174.out)
               rintro e w27 ⟨rfl, hb⟩
               refine ⟨_, rfl, ?_⟩
               have n0_ := Aside0.mk (Kd.N_below (by exact Kd.xN HO_11.out) hb)
               have n1_ := Aside0.mk (Kd.V_below (by exact Kd.xV HO_163000.out) hb)
               have n2_ := Aside0.mk (Kd.V_below (by exact Kd.xV HO_163001.out) hb)
               have n3_ := Aside0.mk (blk_below (g := gb162) (o := .cells #[.slice A0_0 l0_0.length c0_0, .slice A0_1 l0_1.length c0_1] 25 (0, 0)) (by exact bk BK162.out) hb)
               have n4_ := Aside0.mk (Kd.C_below (by repeat (first | (with_reducible exact HR166_0.out) | (with_reducible refine Kd.C_alloc ?_ _) | (with_reducible refine Kd.C_drewN ?_ _) | (with_reducible refine Kd.C_drew ?_) | exact HR166_0.out)) hb)
               have n5_ := Aside0.mk (blk_below (g := gb168) (o := .cells #[.string ((rd_T83 (rd_L4 y163 x13_1) x19_2).f0), .int .i64 ((rd_T83 (rd_L4 y163 x13_1) x19_2).f1)] 83 (0, 0)) (by exact bk BK168.out) hb)
               have n6_ := Aside0.mk (below_step (by exact bw HB.out) hb)
               clear HO_11
               clear HO_163000
               clear HO_163001
               clear BK162
               clear HR166_0
               clear BK168
               clear HB
               have HO_11 := n0_
               have HO_163000 := n1_
               have HO_163001 := n2_
               have BK162 := n3_
               have HR166_0 := n4_
               have BK168 := n5_
               have HB := n6_
               clear n0_ n1_ n2_ n3_ n4_ n5_ n6_
               (try clear hb)
               (try clear hb2)
               (try clear hk)
               (try clear hi)
               refine hK.out _ _ ⟨(blk_cell BK168.out 0).trans rfl, (blk_cell BK168.out 1).trans rfl⟩ (fun hHeld => ?_)
               clear hK K
               refine norm_ (a' := ?_) ?_ ?_
               rotate_left
               ·
                show Act.put _ (some 40) _ = _
                simp only [Act.put, List.setIfInBounds_toArray, List.set_cons_zero, List.set_cons_succ, i64_w, i32_w]
                rfl
               refine pure_ (i := 17) (N := some 41) (v := ?_) (a' := ?_) impl_SchemaValid.m18 rfl rfl (any_of HT_.out (by kernel_rfl)) (fun _ _ _ h => h) (Or.inl ⟨by rfl, ?_⟩) ?_ ?_
               rotate_left
               ·
                intro w'
                go_simp
                with_reducible rfl
               rotate_left
               ·
                simp only [Act.put, List.setIfInBounds_toArray, List.set_cons_zero, List.set_cons_succ, i64_w, i32_w]
                rfl
               refine pure_ (i := 18) (N := some 42) (v := ?_) (a' := ?_) impl_SchemaValid.m19 rfl rfl (any_of HT_.out (by kernel_rfl)) (fun _ _ _ h => h) (Or.inl ⟨by rfl, ?_⟩) ?_ ?_
               rotate_left
               ·
                intro w'
                go_simp
                with_reducible rfl
               rotate_left
               ·
                simp only [Act.put, List.setIfInBounds_toArray, List.set_cons_zero, List.set_cons_succ, i64_w, i32_w]
                rfl
               refine done_ (done_of HT_.out (by kernel_rfl)) ?_
               try go_wp2
               go_roundg k2
               case measure => have := HK1.out; have := HK2.out; omega
               case rel => exact ⟨(wrap64 (x19_2 + 1)), (by first | rfl | (simp; done) | (simp [*]; done)), H', ⟨by have := HK1.out; have := HK2.out; omega⟩, ⟨by (with_reducible repeat (first | apply Kd.N_alloc | apply Kd.N_drewN | apply Kd.N_drew)); exact Kd.N_mono HO_11.out (fun _ hk => okp hk)⟩, ⟨by (with_reducible repeat (first | apply Kd.V_alloc | apply Kd.V_drewN | apply Kd.V_drew)); exact Kd.V_mono HO_163000.out (fun _ hk => okp hk)⟩, ⟨by (with_reducible repeat (first | apply Kd.V_alloc | apply Kd.V_drewN | apply Kd.V_drew)); exact Kd.V_mono HO_163001.out (fun _ hk => okp hk)⟩, ⟨by exact bk BK162.out⟩, ⟨by repeat (first | (with_reducible exact HR166_0.out) | (with_reducible refine Kd.C_alloc ?_ _) | (with_reducible refine Kd.C_drewN ?_ _) | (with_reducible refine Kd.C_drew ?_) | exact HR166_0.out)⟩, ⟨by exact bw HB.out⟩⟩
              ·
               rw [if_neg c20] at H
               have c20b0 : (t175 == 0) = false := beq_eq_false_iff_ne.mpr c20
               have c20b1 : (t175 != 0) = true := bne_iff_ne.mpr c20
               obtain rfl := Option.some.inj H
               have p167 : 0 ≤ (x19_2 : Int) := of_decide_eq_true (by first | (with_reducible assumption) | assumption)
               have q167 : x19_2 < ((rd_L4 y163 x13_1).length : Int) := of_decide_eq_true (by first | (with_reducible assumption) | assumption)
               obtain ⟨ad167, e167, hx167_0, hx167_1⟩ := at_T83 HR166_0.out x19_2 p167 q167
               cases e167
               first | replace hx167_0 := (HB.out.cell (World.block_lt_of_cell? w _ hx167_0)).trans hx167_0 | skip
               first | replace hx167_1 := (HB.out.cell (World.block_lt_of_cell? w _ hx167_1)).trans hx167_1 | skip
               replace p167 := eq_true p167
               replace q167 := eq_true q167
               try go_wp2_with (first | ((with_reducible refine gate_dst (N := 6) rfl ?_); refine box_event ?hg (N := 6) ?hd (cs := #[.string (⟨#[]⟩ : ByteArray), .int .i64 0]) (t := 83) ?hr ?_; (case hd => rfl); (case hg => rfl); (case hr => first | (go_simp; done) | (go_simp; rfl)); intro gb168 hg w28 hbox hb; have n0_ := Aside0.mk (Kd.N_below (Kd.N_elderB (by exact Kd.xN HO_11.out) gb168 (Nat.le_of_eq hg.symm)) hb); have n1_ := Aside0.mk (Kd.V_below (Kd.V_elderB (by exact Kd.xV HO_163000.out) gb168 (Nat.le_of_eq hg.symm)) hb); have n2_ := Aside0.mk (Kd.V_below (Kd.V_elderB (by exact Kd.xV HO_163001.out) gb168 (Nat.le_of_eq hg.symm)) hb); have n3_ := Aside0.mk ((⟨_, by repeat (first | (with_reducible exact HR166_0.out) | (with_reducible refine Kd.C_alloc ?_ _) | (with_reducible refine Kd.C_drewN ?_ _) | (with_reducible refine Kd.C_drew ?_) | exact HR166_0.out), Nat.le_of_eq hg.symm, hb⟩ : ∃ W0_ : World, Kd.C k83 W0_ (some ad167) (rd_L4 y163 x13_1).length (rd_L4 y163 x13_1) ∧ W0_.heap.size ≤ gb168 ∧ Below W0_.heap.size W0_ w28)); have n4_ := Aside0.mk (blk_below (g := gb162) (o := .cells #[.slice A0_0 l0_0.length c0_0, .slice A0_1 l0_1.length c0_1] 25 (0, 0)) (by exact bk BK162.out) hb); have n5_ := Aside0.mk (Kd.C_below (by repeat (first | (with_reducible exact HR166_0.out) | (with_reducible refine Kd.C_alloc ?_ _) | (with_reducible refine Kd.C_drewN ?_ _) | (with_reducible refine Kd.C_drew ?_) | exact HR166_0.out)) hb); have n6_ := Aside0.mk (below_step (by exact bw HB.out) hb); have n7_ := Aside0.mk (hbox); have n8_ := Aside0.mk ((by rw [hg]; exact (below_size (by exact bw HB.out)) : w.heap.size ≤ gb168)); have n9_ := Aside0.mk ((by rw [hg]; exact (below_size (by exact bw HB.out)) : w.heap.size ≤ gb168)); have n10_ := Aside0.mk ((by rw [hg]; exact Nat.ne_of_lt (blk_lt (g := gb162) (o := .cells #[.slice A0_0 l0_0.length c0_0, .slice A0_1 l0_1.length c0_1] 25 (0, 0)) (by exact bk BK162.out)) : gb162 ≠ gb168)); have n11_ := Aside0.mk ((by rw [hg]; exact Nat.ne_of_gt (blk_lt (g := gb162) (o := .cells #[.slice A0_0 l0_0.length c0_0, .slice A0_1 l0_1.length c0_1] 25 (0, 0)) (by exact bk BK162.out)) : gb168 ≠ gb162)); clear HO_11; clear HO_163000; clear HO_163001; clear BK162; clear HR166_0; clear HB; have HO_11 := n0_; have HO_163000 := n1_; have HO_163001 := n2_; have SB168_HR166_0 := n3_; have BK162 := n4_; have HR166_0 := n5_; have HB := n6_; have BK168 := n7_; have GW168 := n8_; have GE168 := n9_; have NB162_168 := n10_; have NB168_162 := n11_; clear n0_ n1_ n2_ n3_ n4_ n5_ n6_ n7_ n8_ n9_ n10_ n11_; clear hb hbox hg; have hnb29 := NB168_162.out; have hnc29 := NB162_168.out; have hcz30_0 : w28.cell? ⟨gb168, 0, none⟩ = some (.string (⟨#[]⟩ : ByteArray)) := (blk_cell BK168.out 0).trans rfl; have hcz30_1 : w28.cell? ⟨gb168, 1, none⟩ = some (.int .i64 0) := (blk_cell BK168.out 1).trans rfl; have hfz30_0 := blk_frozen BK168.out 0; have hfz30_1 := blk_frozen BK168.out 1))
               have n0_ : Aside0 (Kd.N (Kd.slice 83 k83) 23 ((w28.setCell ⟨gb168, 0, none⟩ (.string ((rd_T83 (rd_L4 y163 x13_1) x19_2).f0))).setCell ⟨gb168, 1, none⟩ (.int .i64 ((rd_T83 (rd_L4 y163 x13_1) x19_2).f1))) w.heap.size (fun k_ => ((P0_0_ k_ ∨ P0_1_ k_) ∨ w.heap.size ≤ k_) ∧ k_ ≠ gb162 ∧ k_ ≠ gb168) (.slice (some ad166) y163.length co6) y163) := ⟨by (with_reducible repeat (first | apply Kd.N_alloc | apply Kd.N_drewN | apply Kd.N_drew)); exact Kd.N_mono (Kd.N_far (p := ⟨gb168, 1, none⟩) (Kd.N_far (p := ⟨gb168, 0, none⟩) (Kd.N_mono HO_11.out (fun k_ hk => (⟨hk, okp hk⟩ : _ ∧ k_ ≠ gb168))) (fun _ hk => hk.2) (.string ((rd_T83 (rd_L4 y163 x13_1) x19_2).f0))) (fun _ hk => hk.2) (.int .i64 ((rd_T83 (rd_L4 y163 x13_1) x19_2).f1))) (fun _ hk => okp hk)⟩
               have n1_ : Aside0 (Kd.V k83 83 ((w28.setCell ⟨gb168, 0, none⟩ (.string ((rd_T83 (rd_L4 y163 x13_1) x19_2).f0))).setCell ⟨gb168, 1, none⟩ (.int .i64 ((rd_T83 (rd_L4 y163 x13_1) x19_2).f1))) w.heap.size (fun k_ => ((P0_0_ k_ ∨ P0_1_ k_) ∨ w.heap.size ≤ k_) ∧ some k_ ≠ (.slice (some ad166) y163.length co6 : Value).ownBlock ∧ k_ ≠ gb162 ∧ k_ ≠ gb168) (.slice A0_0 l0_0.length c0_0) l0_0) := ⟨by (with_reducible repeat (first | apply Kd.V_alloc | apply Kd.V_drewN | apply Kd.V_drew)); exact Kd.V_mono (Kd.V_far (p := ⟨gb168, 1, none⟩) (Kd.V_far (p := ⟨gb168, 0, none⟩) (Kd.V_mono HO_163000.out (fun k_ hk => (⟨hk, okp hk⟩ : _ ∧ k_ ≠ gb168))) (fun _ hk => hk.2) (.string ((rd_T83 (rd_L4 y163 x13_1) x19_2).f0))) (fun _ hk => hk.2) (.int .i64 ((rd_T83 (rd_L4 y163 x13_1) x19_2).f1))) (fun _ hk => okp hk)⟩
               have n2_ : Aside0 (Kd.V k83 83 ((w28.setCell ⟨gb168, 0, none⟩ (.string ((rd_T83 (rd_L4 y163 x13_1) x19_2).f0))).setCell ⟨gb168, 1, none⟩ (.int .i64 ((rd_T83 (rd_L4 y163 x13_1) x19_2).f1))) w.heap.size (fun k_ => ((P0_0_ k_ ∨ P0_1_ k_) ∨ w.heap.size ≤ k_) ∧ some k_ ≠ (.slice (some ad166) y163.length co6 : Value).ownBlock ∧ k_ ≠ gb162 ∧ k_ ≠ gb168) (.slice A0_1 l0_1.length c0_1) l0_1) := ⟨by (with_reducible repeat (first | apply Kd.V_alloc | apply Kd.V_drewN | apply Kd.V_drew)); exact Kd.V_mono (Kd.V_far (p := ⟨gb168, 1, none⟩) (Kd.V_far (p := ⟨gb168, 0, none⟩) (Kd.V_mono HO_163001.out (fun k_ hk => (⟨hk, okp hk⟩ : _ ∧ k_ ≠ gb168))) (fun _ hk => hk.2) (.string ((rd_T83 (rd_L4 y163 x13_1) x19_2).f0))) (fun _ hk => hk.2) (.int .i64 ((rd_T83 (rd_L4 y163 x13_1) x19_2).f1))) (fun _ hk => okp hk)⟩
               have n3_ : Aside0 (((w28.setCell ⟨gb168, 0, none⟩ (.string ((rd_T83 (rd_L4 y163 x13_1) x19_2).f0))).setCell ⟨gb168, 1, none⟩ (.int .i64 ((rd_T83 (rd_L4 y163 x13_1) x19_2).f1))).heap[gb162]? = some (.cells #[.slice A0_0 l0_0.length c0_0, .slice A0_1 l0_1.length c0_1] 25 (0, 0))) := ⟨by (with_reducible repeat (first | refine blk_drewN ?_ _ | refine blk_drew ?_ | refine blk_alloc ?_ _)); refine blk_far ?_ NB162_168.out _; (with_reducible repeat (first | refine blk_drewN ?_ _ | refine blk_drew ?_ | refine blk_alloc ?_ _)); refine blk_far ?_ NB162_168.out _; exact bk BK162.out⟩
               have n4_ : Aside0 (((w28.setCell ⟨gb168, 0, none⟩ (.string ((rd_T83 (rd_L4 y163 x13_1) x19_2).f0))).setCell ⟨gb168, 1, none⟩ (.int .i64 ((rd_T83 (rd_L4 y163 x13_1) x19_2).f1))).heap[gb168]? = some (.cells #[.string ((rd_T83 (rd_L4 y163 x13_1) x19_2).f0), .int .i64 ((rd_T83 (rd_L4 y163 x13_1) x19_2).f1)] 83 (0, 0))) := ⟨by (with_reducible repeat (first | refine blk_drewN ?_ _ | refine blk_drew ?_ | refine blk_alloc ?_ _)); refine blk_put (cs := #[.string ((rd_T83 (rd_L4 y163 x13_1) x19_2).f0), .int .i64 0]) ?_ 1 _ rfl; (with_reducible repeat (first | refine blk_drewN ?_ _ | refine blk_drew ?_ | refine blk_alloc ?_ _)); refine blk_put (cs := #[.string (⟨#[]⟩ : ByteArray), .int .i64 0]) ?_ 0 _ rfl; exact bk BK168.out⟩
               have n5_ : Aside0 (Below w.heap.size w ((w28.setCell ⟨gb168, 0, none⟩ (.string ((rd_T83 (rd_L4 y163 x13_1) x19_2).f0))).setCell ⟨gb168, 1, none⟩ (.int .i64 ((rd_T83 (rd_L4 y163 x13_1) x19_2).f1)))) := ⟨by exact bw HB.out⟩
               have n6_ : Aside0 (Kd.C k83 ((w28.setCell ⟨gb168, 0, none⟩ (.string ((rd_T83 (rd_L4 y163 x13_1) x19_2).f0))).setCell ⟨gb168, 1, none⟩ (.int .i64 ((rd_T83 (rd_L4 y163 x13_1) x19_2).f1))) (some ad167) (rd_L4 y163 x13_1).length (rd_L4 y163 x13_1)) := ⟨(let ⟨W0_, h1_, h2_, h3_⟩ := SB168_HR166_0.out; Kd.C_below h1_ (by repeat (first | exact h3_ | refine below_set ?_ (Nat.le_trans h2_ (by first | exact Nat.le_refl _ | exact Nat.le_of_eq rfl)))))⟩
               (try clear HO_11)
               (try clear HO_163000)
               (try clear HO_163001)
               (try clear BK162)
               (try clear BK168)
               (try clear HB)
               (try clear HR166_0)
               generalize ((w28.setCell ⟨gb168, 0, none⟩ (.string ((rd_T83 (rd_L4 y163 x13_1) x19_2).f0))).setCell ⟨gb168, 1, none⟩ (.int .i64 ((rd_T83 (rd_L4 y163 x13_1) x19_2).f1))) = w31 at n0_ n1_ n2_ n3_ n4_ n5_ n6_ ⊢
               have HO_11 := n0_
               have HO_163000 := n1_
               have HO_163001 := n2_
               have BK162 := n3_
               have BK168 := n4_
               have HB := n5_
               have HR166_0 := n6_
               clear n0_ n1_ n2_ n3_ n4_ n5_ n6_
               have n0_ := Aside0.mk (Kd.N_drew HO_11.out)
               have n1_ := Aside0.mk (Kd.V_drew HO_163000.out)
               have n2_ := Aside0.mk (Kd.V_drew HO_163001.out)
               have n3_ := Aside0.mk (blk_drew BK162.out)
               have n4_ := Aside0.mk (blk_drew BK168.out)
               have n5_ := Aside0.mk (Kd.C_drew HR166_0.out)
               have n6_ := Aside0.mk (below_drew1 HB.out)
               clear HO_11
               clear HO_163000
               clear HO_163001
               clear BK162
               clear BK168
               clear HR166_0
               clear HB
               have HO_11 := n0_
               have HO_163000 := n1_
               have HO_163001 := n2_
               have BK162 := n3_
               have BK168 := n4_
               have HR166_0 := n5_
               have HB := n6_
               clear n0_ n1_ n2_ n3_ n4_ n5_ n6_
               refine start_ (n := 19) (S := fun w' => w'.cell? ⟨gb168, 0, none⟩ = some (.string ((rd_T83 (rd_L4 y163 x13_1) x19_2).f0)) ∧ w'.cell? ⟨gb168, 1, none⟩ = some (.int .i64 ((rd_T83 (rd_L4 y163 x13_1) x19_2).f1))) (ds := []) impl_SchemaValid.m0 (by kernel_rfl) rfl rfl ⟨(blk_cell BK168.out 0).trans rfl, (blk_cell BK168.out 1).trans rfl⟩ (fun hHeld => ?_); refine with_tabW impl_SchemaValid.tab7 impl_SchemaValid.bits7 (fun HT_ HW_ => ?_)
               generalize w31.drew = w32 at HO_11 HO_163000 HO_163001 BK162 BK168 HR166_0 HB hHeld ⊢
               refine pure_ (i := 0) (N := some 24) (v := ?_) (a' := ?_) impl_SchemaValid.m1 rfl rfl (any_of HT_.out (by kernel_rfl)) (fun _ _ _ h => h) (Or.inl ⟨by rfl, ?_⟩) ?_ ?_
               rotate_left
               ·
                intro w'
                go_simp
                with_reducible rfl
               rotate_left
               ·
                simp only [Act.put, List.setIfInBounds_toArray, List.set_cons_zero, List.set_cons_succ, i64_w, i32_w]
                rfl
               refine take_ (i := 1) (N := some 25) (v := ?_) (a' := ?_) impl_SchemaValid.m2 rfl rfl (take_ofW HT_.out HW_.out (by kernel_rfl)) (fun _ _ _ h => h) (Or.inl ⟨by rfl, ?_⟩) hHeld ?_ ?_
               rotate_left
               ·
                rintro w' ⟨s0, s1⟩
                go_simp
                with_reducible rfl
               rotate_left
               ·
                simp only [Act.put, List.setIfInBounds_toArray, List.set_cons_zero, List.set_cons_succ, i64_w, i32_w]
                rfl
               refine one_ (i := 2) (N := some 26) impl_SchemaValid.m3 rfl rfl (one_of HT_.out (by kernel_rfl)) (by decide) (fun K hK => ?_)
               refine goes_ Try.func43 (by kernel_rfl) rfl #[.string ((rd_T83 (rd_L4 y163 x13_1) x19_2).f0)] (by rfl) rfl rfl (by (try simp only [List.map_toArray, List.map_cons, List.map_nil]); first | done | rfl | (simp only [List.length_drop, List.length_take]; rfl)) ?_
               with_reducible refine (impl_NameValid.calls k2 ((rd_T83 (rd_L4 y163 x13_1) x19_2).f0) true _ A13.out).mono ?_
               rintro e w' ⟨rfl, ⟨nd, rfl⟩⟩
               refine ⟨_, rfl, ?_⟩
               refine hK.out _ _ ⟨(blk_cell BK168.out 0).trans rfl, (blk_cell BK168.out 1).trans rfl⟩ (fun hHeld => ?_)
               clear hK K
               refine norm_ (a' := ?_) ?_ ?_
               rotate_left
               ·
                show Act.put _ (some 26) _ = _
                simp only [Act.put, List.setIfInBounds_toArray, List.set_cons_zero, List.set_cons_succ, i64_w, i32_w]
                rfl
               refine pure_ (i := 3) (N := some 27) (v := ?_) (a' := ?_) impl_SchemaValid.m4 rfl rfl (any_of HT_.out (by kernel_rfl)) (fun _ _ _ h => h) (Or.inl ⟨by rfl, ?_⟩) ?_ ?_
               rotate_left
               ·
                intro w'
                go_simp
                with_reducible rfl
               rotate_left
               ·
                simp only [Act.put, List.setIfInBounds_toArray, List.set_cons_zero, List.set_cons_succ, i64_w, i32_w]
                rfl
               refine pure_ (i := 4) (N := some 28) (v := ?_) (a' := ?_) impl_SchemaValid.m5 rfl rfl (any_of HT_.out (by kernel_rfl)) (fun _ _ _ h => h) (Or.inl ⟨by rfl, ?_⟩) ?_ ?_
               rotate_left
               ·
                intro w'
                go_simp
                with_reducible rfl
               rotate_left
               ·
                simp only [Act.put, List.setIfInBounds_toArray, List.set_cons_zero, List.set_cons_succ, i64_w, i32_w]
                rfl
               refine pure_ (i := 5) (N := some 29) (v := ?_) (a' := ?_) impl_SchemaValid.m6 rfl rfl (any_of HT_.out (by kernel_rfl)) (fun _ _ _ h => h) (Or.inl ⟨by rfl, ?_⟩) ?_ ?_
               rotate_left
               ·
                intro w'
                go_simp
                with_reducible rfl
               rotate_left
               ·
                simp only [Act.put, List.setIfInBounds_toArray, List.set_cons_zero, List.set_cons_succ, i64_w, i32_w]
                rfl
               refine take_ (i := 6) (N := some 30) (v := ?_) (a' := ?_) impl_SchemaValid.m7 rfl rfl (take_ofW HT_.out HW_.out (by kernel_rfl)) (fun _ _ _ h => h) (Or.inl ⟨by rfl, ?_⟩) hHeld ?_ ?_
               rotate_left
               ·
                rintro w' ⟨s0, s1⟩
                go_simp
                with_reducible rfl
               rotate_left
               ·
                simp only [Act.put, List.setIfInBounds_toArray, List.set_cons_zero, List.set_cons_succ, i64_w, i32_w]
                rfl
               refine one_ (i := 7) (N := some 31) impl_SchemaValid.m8 rfl rfl (one_of HT_.out (by kernel_rfl)) (by decide) (fun K hK => ?_)
               refine goes_ Try.func44 (by kernel_rfl) rfl #[.int .i64 ((rd_T83 (rd_L4 y163 x13_1) x19_2).f1), .int .i64 1, .int .i64 3] (by rfl) rfl rfl (by (try simp only [List.map_toArray, List.map_cons, List.map_nil]); first | done | rfl | (simp only [List.length_drop, List.length_take]; rfl)) ?_
               with_reducible refine (impl_in.calls ((rd_T83 (rd_L4 y163 x13_1) x19_2).f1) 1 3 true _ A15.out).mono ?_
               rintro e w' ⟨rfl, ⟨nd, rfl⟩⟩
               refine ⟨_, rfl, ?_⟩
               have q33 : (x19_2 : Int) ≤ (((rd_L4 y163 x13_1).length : Int) : Int) := of_decide_eq_true (by first | (with_reducible assumption) | assumption)
               obtain ⟨i033, hi033, _, hsz33, _⟩ := info_parts info83
               have hroom33 : (rd_L4 y163 x13_1).length ≤ c166_0 := HC166_0.out
               have hC33 : Kd.C k83 _ (some ad167) (rd_L4 y163 x13_1).length (rd_L4 y163 x13_1) := HR166_0.out
               have hcut33 := cut_to (P := Try.prog) 23 83 .i64 Try.underlying23 hi033 (some ad167) (rd_L4 y163 x13_1).length c166_0 x19_2 (of_decide_eq_true (by first | (with_reducible assumption) | assumption)) q33 hroom33
               have hr33 := Kd.C_take (m := (x19_2 : Int).toNat) hC33 (by omega)
               have hy33 : y171.length = (x19_2 : Int).toNat := (by rw [Ny171.out, List.length_take]; omega)
               rw [← Ny171.out] at hr33
               rw [← hy33] at hcut33
               have HR174 := Aside0.mk hr33
               have HC174 := Aside0.mk (show y171.length ≤ c166_0 from by omega)
               clear hr33 hC33 hroom33 hi033 hsz33
               have KY33 := Aside0.mk hy33
               clear hy33
               replace q33 := eq_true q33
               refine hK.out _ _ ⟨(blk_cell BK168.out 0).trans rfl, (blk_cell BK168.out 1).trans rfl⟩ (fun hHeld => ?_)
               clear hK K
               refine norm_ (a' := ?_) ?_ ?_
               rotate_left
               ·
                show Act.put _ (some 31) _ = _
                simp only [Act.put, List.setIfInBounds_toArray, List.set_cons_zero, List.set_cons_succ, i64_w, i32_w]
                rfl
               refine pure_ (i := 8) (N := some 32) (v := ?_) (a' := ?_) impl_SchemaValid.m9 rfl rfl (any_of HT_.out (by kernel_rfl)) (fun _ _ _ h => h) (Or.inl ⟨by rfl, ?_⟩) ?_ ?_
               rotate_left
               ·
                intro w'
                go_simp
                with_reducible rfl
               rotate_left
               ·
                simp only [Act.put, List.setIfInBounds_toArray, List.set_cons_zero, List.set_cons_succ, i64_w, i32_w]
                rfl
               refine pure_ (i := 9) (N := some 33) (v := ?_) (a' := ?_) impl_SchemaValid.m10 rfl rfl (any_of HT_.out (by kernel_rfl)) (fun _ _ _ h => h) (Or.inl ⟨by rfl, ?_⟩) ?_ ?_
               rotate_left
               ·
                intro w'
                go_simp
                with_reducible rfl
               rotate_left
               ·
                simp only [Act.put, List.setIfInBounds_toArray, List.set_cons_zero, List.set_cons_succ, i64_w, i32_w]
                rfl
               refine pure_ (i := 10) (N := some 34) (v := ?_) (a' := ?_) impl_SchemaValid.m11 rfl rfl (any_of HT_.out (by kernel_rfl)) (fun _ _ _ h => h) (Or.inl ⟨by rfl, ?_⟩) ?_ ?_
               rotate_left
               ·
                intro w'
                go_simp
                with_reducible rfl
               rotate_left
               ·
                simp only [Act.put, List.setIfInBounds_toArray, List.set_cons_zero, List.set_cons_succ, i64_w, i32_w]
                rfl
               refine pure_ (i := 11) (N := some 35) (v := ?_) (a' := ?_) impl_SchemaValid.m12 rfl rfl (any_of HT_.out (by kernel_rfl)) (fun _ _ _ h => h) (Or.inl ⟨by rfl, ?_⟩) ?_ ?_
               rotate_left
               ·
                intro w'
                go_simp
                with_reducible rfl
               rotate_left
               ·
                simp only [Act.put, List.setIfInBounds_toArray, List.set_cons_zero, List.set_cons_succ, i64_w, i32_w]
                rfl
               refine pure_ (i := 12) (N := some 36) (v := ?_) (a' := ?_) impl_SchemaValid.m13 rfl rfl (any_of HT_.out (by kernel_rfl)) (fun _ _ _ h => h) (Or.inl ⟨by rfl, ?_⟩) ?_ ?_
               rotate_left
               ·
                intro w'
                go_simp
                with_reducible rfl
               rotate_left
               ·
                simp only [Act.put, List.setIfInBounds_toArray, List.set_cons_zero, List.set_cons_succ, i64_w, i32_w]
                rfl
               refine pure_ (i := 13) (N := some 37) (v := ?_) (a' := ?_) impl_SchemaValid.m14 rfl rfl (any_of HT_.out (by kernel_rfl)) (fun _ _ _ h => h) (Or.inl ⟨by rfl, ?_⟩) ?_ ?_
               rotate_left
               ·
                intro w'
                go_simp
                with_reducible rfl
               rotate_left
               ·
                simp only [Act.put, List.setIfInBounds_toArray, List.set_cons_zero, List.set_cons_succ, i64_w, i32_w]
                rfl
               refine pure_ (i := 14) (N := some 38) (v := ?_) (a' := ?_) impl_SchemaValid.m15 rfl rfl (any_of HT_.out (by kernel_rfl)) (fun _ _ _ h => h) (Or.inl ⟨by rfl, ?_⟩) ?_ ?_
               rotate_left
               ·
                intro w'
                go_simp
                with_reducible rfl
               rotate_left
               ·
                simp only [Act.put, List.setIfInBounds_toArray, List.set_cons_zero, List.set_cons_succ, i64_w, i32_w]
                rfl
               refine take_ (i := 15) (N := some 39) (v := ?_) (a' := ?_) impl_SchemaValid.m16 rfl rfl (take_ofW HT_.out HW_.out (by kernel_rfl)) (fun _ _ _ h => h) (Or.inl ⟨by rfl, ?_⟩) hHeld ?_ ?_
               rotate_left
               ·
                rintro w' ⟨s0, s1⟩
                go_simp
                with_reducible rfl
               rotate_left
               ·
                simp only [Act.put, List.setIfInBounds_toArray, List.set_cons_zero, List.set_cons_succ, i64_w, i32_w]
                rfl
               refine one_ (i := 16) (N := some 40) impl_SchemaValid.m17 rfl rfl (one_of HT_.out (by kernel_rfl)) (by decide) (fun K hK => ?_)
               refine goes_ Try.func45 (by kernel_rfl) rfl #[.slice (some ad167) y171.length c166_0, .string ((rd_T83 (rd_L4 y163 x13_1) x19_2).f0)] (by rfl) rfl rfl (by (try simp only [List.map_toArray, List.map_cons, List.map_nil]); first | done | rfl | (simp only [List.length_drop, List.length_take]; rfl)) ?_
               with_reducible refine (impl_kindIn.calls k2 _ _ y171 ((rd_T83 (rd_L4 y163 x13_1) x19_2).f0) t175 _ ?side1 ?side2 A19.out).mono ?_
               (case side1 => repeat (first | exact (Kd.C_below HR174.out (by exact bw HB.out)) | exact HR174.out | (with_reducible refine Kd.C_alloc ?_ _) | (with_reducible refine Kd.C_drewN ?_ _) | (with_reducible refine Kd.C_drew ?_)))
               (case side2 => exact HC174.out)
               rintro e w34 ⟨rfl, hb⟩
               refine ⟨_, rfl, ?_⟩
               have n0_ := Aside0.mk (Kd.N_below (by exact Kd.xN HO_11.out) hb)
               have n1_ := Aside0.mk (Kd.V_below (by exact Kd.xV HO_163000.out) hb)
               have n2_ := Aside0.mk (Kd.V_below (by exact Kd.xV HO_163001.out) hb)
               have n3_ := Aside0.mk (blk_below (g := gb162) (o := .cells #[.slice A0_0 l0_0.length c0_0, .slice A0_1 l0_1.length c0_1] 25 (0, 0)) (by exact bk BK162.out) hb)
               have n4_ := Aside0.mk (Kd.C_below (by repeat (first | (with_reducible exact HR166_0.out) | (with_reducible refine Kd.C_alloc ?_ _) | (with_reducible refine Kd.C_drewN ?_ _) | (with_reducible refine Kd.C_drew ?_) | exact HR166_0.out)) hb)
               have n5_ := Aside0.mk (blk_below (g := gb168) (o := .cells #[.string ((rd_T83 (rd_L4 y163 x13_1) x19_2).f0), .int .i64 ((rd_T83 (rd_L4 y163 x13_1) x19_2).f1)] 83 (0, 0)) (by exact bk BK168.out) hb)
               have n6_ := Aside0.mk (below_step (by exact bw HB.out) hb)
               clear HO_11
               clear HO_163000
               clear HO_163001
               clear BK162
               clear HR166_0
               clear BK168
               clear HB
               have HO_11 := n0_
               have HO_163000 := n1_
               have HO_163001 := n2_
               have BK162 := n3_
               have HR166_0 := n4_
               have BK168 := n5_
               have HB := n6_
               clear n0_ n1_ n2_ n3_ n4_ n5_ n6_
               (try clear hb)
               (try clear hb2)
               (try clear hk)
               (try clear hi)
               refine hK.out _ _ ⟨(blk_cell BK168.out 0).trans rfl, (blk_cell BK168.out 1).trans rfl⟩ (fun hHeld => ?_)
               clear hK K
               refine norm_ (a' := ?_) ?_ ?_
               rotate_left
               ·
                show Act.put _ (some 40) _ = _
                simp only [Act.put, List.setIfInBounds_toArray, List.set_cons_zero, List.set_cons_succ, i64_w, i32_w]
                rfl
               refine pure_ (i := 17) (N := some 41) (v := ?_) (a' := ?_) impl_SchemaValid.m18 rfl rfl (any_of HT_.out (by kernel_rfl)) (fun _ _ _ h => h) (Or.inl ⟨by rfl, ?_⟩) ?_ ?_
               rotate_left
               ·
                intro w'
                go_simp
                with_reducible rfl
               rotate_left
               ·
                simp only [Act.put, List.setIfInBounds_toArray, List.set_cons_zero, List.set_cons_succ, i64_w, i32_w]
                rfl
               refine pure_ (i := 18) (N := some 42) (v := ?_) (a' := ?_) impl_SchemaValid.m19 rfl rfl (any_of HT_.out (by kernel_rfl)) (fun _ _ _ h => h) (Or.inl ⟨by rfl, ?_⟩) ?_ ?_
               rotate_left
               ·
                intro w'
                go_simp
                with_reducible rfl
               rotate_left
               ·
                simp only [Act.put, List.setIfInBounds_toArray, List.set_cons_zero, List.set_cons_succ, i64_w, i32_w]
                rfl
               refine done_ (done_of HT_.out (by kernel_rfl)) ?_
               try go_wp2
               go_ret
               exact ⟨by first | rfl | (simp [errW_none, errW_some] <;> rfl) | (simp [*, errW_none, errW_some] <;> rfl), by exact bw HB.out⟩
             ·
              rw [if_neg c18] at H
              exact absurd H (by simp)
            ·
             replace c16 := Bool.eq_false_iff.mpr c16
             subst c16
             have H1 : (some false) = some r := by rw [if_neg (show ¬ (false = true) by decide)] at H; exact H
             clear H
             have H := H1
             clear H1
             obtain rfl := Option.some.inj H
             have p167 : 0 ≤ (x19_2 : Int) := of_decide_eq_true (by first | (with_reducible assumption) | assumption)
             have q167 : x19_2 < ((rd_L4 y163 x13_1).length : Int) := of_decide_eq_true (by first | (with_reducible assumption) | assumption)
             obtain ⟨ad167, e167, hx167_0, hx167_1⟩ := at_T83 HR166_0.out x19_2 p167 q167
             cases e167
             first | replace hx167_0 := (HB.out.cell (World.block_lt_of_cell? w _ hx167_0)).trans hx167_0 | skip
             first | replace hx167_1 := (HB.out.cell (World.block_lt_of_cell? w _ hx167_1)).trans hx167_1 | skip
             replace p167 := eq_true p167
             replace q167 := eq_true q167
             try go_wp2_with (first | ((with_reducible refine gate_dst (N := 6) rfl ?_); refine box_event ?hg (N := 6) ?hd (cs := #[.string (⟨#[]⟩ : ByteArray), .int .i64 0]) (t := 83) ?hr ?_; (case hd => rfl); (case hg => rfl); (case hr => first | (go_simp; done) | (go_simp; rfl)); intro gb168 hg w35 hbox hb; have n0_ := Aside0.mk (Kd.N_below (Kd.N_elderB (by exact Kd.xN HO_11.out) gb168 (Nat.le_of_eq hg.symm)) hb); have n1_ := Aside0.mk (Kd.V_below (Kd.V_elderB (by exact Kd.xV HO_163000.out) gb168 (Nat.le_of_eq hg.symm)) hb); have n2_ := Aside0.mk (Kd.V_below (Kd.V_elderB (by exact Kd.xV HO_163001.out) gb168 (Nat.le_of_eq hg.symm)) hb); have n3_ := Aside0.mk ((⟨_, by repeat (first | (with_reducible exact HR166_0.out) | (with_reducible refine Kd.C_alloc ?_ _) | (with_reducible refine Kd.C_drewN ?_ _) | (with_reducible refine Kd.C_drew ?_) | exact HR166_0.out), Nat.le_of_eq hg.symm, hb⟩ : ∃ W0_ : World, Kd.C k83 W0_ (some ad167) (rd_L4 y163 x13_1).length (rd_L4 y163 x13_1) ∧ W0_.heap.size ≤ gb168 ∧ Below W0_.heap.size W0_ w35)); have n4_ := Aside0.mk (blk_below (g := gb162) (o := .cells #[.slice A0_0 l0_0.length c0_0, .slice A0_1 l0_1.length c0_1] 25 (0, 0)) (by exact bk BK162.out) hb); have n5_ := Aside0.mk (Kd.C_below (by repeat (first | (with_reducible exact HR166_0.out) | (with_reducible refine Kd.C_alloc ?_ _) | (with_reducible refine Kd.C_drewN ?_ _) | (with_reducible refine Kd.C_drew ?_) | exact HR166_0.out)) hb); have n6_ := Aside0.mk (below_step (by exact bw HB.out) hb); have n7_ := Aside0.mk (hbox); have n8_ := Aside0.mk ((by rw [hg]; exact (below_size (by exact bw HB.out)) : w.heap.size ≤ gb168)); have n9_ := Aside0.mk ((by rw [hg]; exact (below_size (by exact bw HB.out)) : w.heap.size ≤ gb168)); have n10_ := Aside0.mk ((by rw [hg]; exact Nat.ne_of_lt (blk_lt (g := gb162) (o := .cells #[.slice A0_0 l0_0.length c0_0, .slice A0_1 l0_1.length c0_1] 25 (0, 0)) (by exact bk BK162.out)) : gb162 ≠ gb168)); have n11_ := Aside0.mk ((by rw [hg]; exact Nat.ne_of_gt (blk_lt (g := gb162) (o := .cells #[.slice A0_0 l0_0.length c0_0, .slice A0_1 l0_1.length c0_1] 25 (0, 0)) (by exact bk BK162.out)) : gb168 ≠ gb162)); clear HO_11; clear HO_163000; clear HO_163001; clear BK162; clear HR166_0; clear HB; have HO_11 := n0_; have HO_163000 := n1_; have HO_163001 := n2_; have SB168_HR166_0 := n3_; have BK162 := n4_; have HR166_0 := n5_; have HB := n6_; have BK168 := n7_; have GW168 := n8_; have GE168 := n9_; have NB162_168 := n10_; have NB168_162 := n11_; clear n0_ n1_ n2_ n3_ n4_ n5_ n6_ n7_ n8_ n9_ n10_ n11_; clear hb hbox hg; have hnb36 := NB168_162.out; have hnc36 := NB162_168.out; have hcz37_0 : w35.cell? ⟨gb168, 0, none⟩ = some (.string (⟨#[]⟩ : ByteArray)) := (blk_cell BK168.out 0).trans rfl; have hcz37_1 : w35.cell? ⟨gb168, 1, none⟩ = some (.int .i64 0) := (blk_cell BK168.out 1).trans rfl; have hfz37_0 := blk_frozen BK168.out 0; have hfz37_1 := blk_frozen BK168.out 1))
             have n0_ : Aside0 (Kd.N (Kd.slice 83 k83) 23 ((w35.setCell ⟨gb168, 0, none⟩ (.string ((rd_T83 (rd_L4 y163 x13_1) x19_2).f0))).setCell ⟨gb168, 1, none⟩ (.int .i64 ((rd_T83 (rd_L4 y163 x13_1) x19_2).f1))) w.heap.size (fun k_ => ((P0_0_ k_ ∨ P0_1_ k_) ∨ w.heap.size ≤ k_) ∧ k_ ≠ gb162 ∧ k_ ≠ gb168) (.slice (some ad166) y163.length co6) y163) := ⟨by (with_reducible repeat (first | apply Kd.N_alloc | apply Kd.N_drewN | apply Kd.N_drew)); exact Kd.N_mono (Kd.N_far (p := ⟨gb168, 1, none⟩) (Kd.N_far (p := ⟨gb168, 0, none⟩) (Kd.N_mono HO_11.out (fun k_ hk => (⟨hk, okp hk⟩ : _ ∧ k_ ≠ gb168))) (fun _ hk => hk.2) (.string ((rd_T83 (rd_L4 y163 x13_1) x19_2).f0))) (fun _ hk => hk.2) (.int .i64 ((rd_T83 (rd_L4 y163 x13_1) x19_2).f1))) (fun _ hk => okp hk)⟩
             have n1_ : Aside0 (Kd.V k83 83 ((w35.setCell ⟨gb168, 0, none⟩ (.string ((rd_T83 (rd_L4 y163 x13_1) x19_2).f0))).setCell ⟨gb168, 1, none⟩ (.int .i64 ((rd_T83 (rd_L4 y163 x13_1) x19_2).f1))) w.heap.size (fun k_ => ((P0_0_ k_ ∨ P0_1_ k_) ∨ w.heap.size ≤ k_) ∧ some k_ ≠ (.slice (some ad166) y163.length co6 : Value).ownBlock ∧ k_ ≠ gb162 ∧ k_ ≠ gb168) (.slice A0_0 l0_0.length c0_0) l0_0) := ⟨by (with_reducible repeat (first | apply Kd.V_alloc | apply Kd.V_drewN | apply Kd.V_drew)); exact Kd.V_mono (Kd.V_far (p := ⟨gb168, 1, none⟩) (Kd.V_far (p := ⟨gb168, 0, none⟩) (Kd.V_mono HO_163000.out (fun k_ hk => (⟨hk, okp hk⟩ : _ ∧ k_ ≠ gb168))) (fun _ hk => hk.2) (.string ((rd_T83 (rd_L4 y163 x13_1) x19_2).f0))) (fun _ hk => hk.2) (.int .i64 ((rd_T83 (rd_L4 y163 x13_1) x19_2).f1))) (fun _ hk => okp hk)⟩
             have n2_ : Aside0 (Kd.V k83 83 ((w35.setCell ⟨gb168, 0, none⟩ (.string ((rd_T83 (rd_L4 y163 x13_1) x19_2).f0))).setCell ⟨gb168, 1, none⟩ (.int .i64 ((rd_T83 (rd_L4 y163 x13_1) x19_2).f1))) w.heap.size (fun k_ => ((P0_0_ k_ ∨ P0_1_ k_) ∨ w.heap.size ≤ k_) ∧ some k_ ≠ (.slice (some ad166) y163.length co6 : Value).ownBlock ∧ k_ ≠ gb162 ∧ k_ ≠ gb168) (.slice A0_1 l0_1.length c0_1) l0_1) := ⟨by (with_reducible repeat (first | apply Kd.V_alloc | apply Kd.V_drewN | apply Kd.V_drew)); exact Kd.V_mono (Kd.V_far (p := ⟨gb168, 1, none⟩) (Kd.V_far (p := ⟨gb168, 0, none⟩) (Kd.V_mono HO_163001.out (fun k_ hk => (⟨hk, okp hk⟩ : _ ∧ k_ ≠ gb168))) (fun _ hk => hk.2) (.string ((rd_T83 (rd_L4 y163 x13_1) x19_2).f0))) (fun _ hk => hk.2) (.int .i64 ((rd_T83 (rd_L4 y163 x13_1) x19_2).f1))) (fun _ hk => okp hk)⟩
             have n3_ : Aside0 (((w35.setCell ⟨gb168, 0, none⟩ (.string ((rd_T83 (rd_L4 y163 x13_1) x19_2).f0))).setCell ⟨gb168, 1, none⟩ (.int .i64 ((rd_T83 (rd_L4 y163 x13_1) x19_2).f1))).heap[gb162]? = some (.cells #[.slice A0_0 l0_0.length c0_0, .slice A0_1 l0_1.length c0_1] 25 (0, 0))) := ⟨by (with_reducible repeat (first | refine blk_drewN ?_ _ | refine blk_drew ?_ | refine blk_alloc ?_ _)); refine blk_far ?_ NB162_168.out _; (with_reducible repeat (first | refine blk_drewN ?_ _ | refine blk_drew ?_ | refine blk_alloc ?_ _)); refine blk_far ?_ NB162_168.out _; exact bk BK162.out⟩
             have n4_ : Aside0 (((w35.setCell ⟨gb168, 0, none⟩ (.string ((rd_T83 (rd_L4 y163 x13_1) x19_2).f0))).setCell ⟨gb168, 1, none⟩ (.int .i64 ((rd_T83 (rd_L4 y163 x13_1) x19_2).f1))).heap[gb168]? = some (.cells #[.string ((rd_T83 (rd_L4 y163 x13_1) x19_2).f0), .int .i64 ((rd_T83 (rd_L4 y163 x13_1) x19_2).f1)] 83 (0, 0))) := ⟨by (with_reducible repeat (first | refine blk_drewN ?_ _ | refine blk_drew ?_ | refine blk_alloc ?_ _)); refine blk_put (cs := #[.string ((rd_T83 (rd_L4 y163 x13_1) x19_2).f0), .int .i64 0]) ?_ 1 _ rfl; (with_reducible repeat (first | refine blk_drewN ?_ _ | refine blk_drew ?_ | refine blk_alloc ?_ _)); refine blk_put (cs := #[.string (⟨#[]⟩ : ByteArray), .int .i64 0]) ?_ 0 _ rfl; exact bk BK168.out⟩
             have n5_ : Aside0 (Below w.heap.size w ((w35.setCell ⟨gb168, 0, none⟩ (.string ((rd_T83 (rd_L4 y163 x13_1) x19_2).f0))).setCell ⟨gb168, 1, none⟩ (.int .i64 ((rd_T83 (rd_L4 y163 x13_1) x19_2).f1)))) := ⟨by exact bw HB.out⟩
             have n6_ : Aside0 (Kd.C k83 ((w35.setCell ⟨gb168, 0, none⟩ (.string ((rd_T83 (rd_L4 y163 x13_1) x19_2).f0))).setCell ⟨gb168, 1, none⟩ (.int .i64 ((rd_T83 (rd_L4 y163 x13_1) x19_2).f1))) (some ad167) (rd_L4 y163 x13_1).length (rd_L4 y163 x13_1)) := ⟨(let ⟨W0_, h1_, h2_, h3_⟩ := SB168_HR166_0.out; Kd.C_below h1_ (by repeat (first | exact h3_ | refine below_set ?_ (Nat.le_trans h2_ (by first | exact Nat.le_refl _ | exact Nat.le_of_eq rfl)))))⟩
             (try clear HO_11)
             (try clear HO_163000)
             (try clear HO_163001)
             (try clear BK162)
             (try clear BK168)
             (try clear HB)
             (try clear HR166_0)
             generalize ((w35.setCell ⟨gb168, 0, none⟩ (.string ((rd_T83 (rd_L4 y163 x13_1) x19_2).f0))).setCell ⟨gb168, 1, none⟩ (.int .i64 ((rd_T83 (rd_L4 y163 x13_1) x19_2).f1))) = w38 at n0_ n1_ n2_ n3_ n4_ n5_ n6_ ⊢
             have HO_11 := n0_
             have HO_163000 := n1_
             have HO_163001 := n2_
             have BK162 := n3_
             have BK168 := n4_
             have HB := n5_
             have HR166_0 := n6_
             clear n0_ n1_ n2_ n3_ n4_ n5_ n6_
             have n0_ := Aside0.mk (Kd.N_drew HO_11.out)
             have n1_ := Aside0.mk (Kd.V_drew HO_163000.out)
             have n2_ := Aside0.mk (Kd.V_drew HO_163001.out)
             have n3_ := Aside0.mk (blk_drew BK162.out)
             have n4_ := Aside0.mk (blk_drew BK168.out)
             have n5_ := Aside0.mk (Kd.C_drew HR166_0.out)
             have n6_ := Aside0.mk (below_drew1 HB.out)
             clear HO_11
             clear HO_163000
             clear HO_163001
             clear BK162
             clear BK168
             clear HR166_0
             clear HB
             have HO_11 := n0_
             have HO_163000 := n1_
             have HO_163001 := n2_
             have BK162 := n3_
             have BK168 := n4_
             have HR166_0 := n5_
             have HB := n6_
             clear n0_ n1_ n2_ n3_ n4_ n5_ n6_
             refine start_ (n := 19) (S := fun w' => w'.cell? ⟨gb168, 0, none⟩ = some (.string ((rd_T83 (rd_L4 y163 x13_1) x19_2).f0)) ∧ w'.cell? ⟨gb168, 1, none⟩ = some (.int .i64 ((rd_T83 (rd_L4 y163 x13_1) x19_2).f1))) (ds := []) impl_SchemaValid.m0 (by kernel_rfl) rfl rfl ⟨(blk_cell BK168.out 0).trans rfl, (blk_cell BK168.out 1).trans rfl⟩ (fun hHeld => ?_); refine with_tabW impl_SchemaValid.tab7 impl_SchemaValid.bits7 (fun HT_ HW_ => ?_)
             generalize w38.drew = w39 at HO_11 HO_163000 HO_163001 BK162 BK168 HR166_0 HB hHeld ⊢
             refine pure_ (i := 0) (N := some 24) (v := ?_) (a' := ?_) impl_SchemaValid.m1 rfl rfl (any_of HT_.out (by kernel_rfl)) (fun _ _ _ h => h) (Or.inl ⟨by rfl, ?_⟩) ?_ ?_
             rotate_left
             ·
              intro w'
              go_simp
              with_reducible rfl
             rotate_left
             ·
              simp only [Act.put, List.setIfInBounds_toArray, List.set_cons_zero, List.set_cons_succ, i64_w, i32_w]
              rfl
             refine take_ (i := 1) (N := some 25) (v := ?_) (a' := ?_) impl_SchemaValid.m2 rfl rfl (take_ofW HT_.out HW_.out (by kernel_rfl)) (fun _ _ _ h => h) (Or.inl ⟨by rfl, ?_⟩) hHeld ?_ ?_
             rotate_left
             ·
              rintro w' ⟨s0, s1⟩
              go_simp
              with_reducible rfl
             rotate_left
             ·
              simp only [Act.put, List.setIfInBounds_toArray, List.set_cons_zero, List.set_cons_succ, i64_w, i32_w]
              rfl
             refine one_ (i := 2) (N := some 26) impl_SchemaValid.m3 rfl rfl (one_of HT_.out (by kernel_rfl)) (by decide) (fun K hK => ?_)
             refine goes_ Try.func43 (by kernel_rfl) rfl #[.string ((rd_T83 (rd_L4 y163 x13_1) x19_2).f0)] (by rfl) rfl rfl (by (try simp only [List.map_toArray, List.map_cons, List.map_nil]); first | done | rfl | (simp only [List.length_drop, List.length_take]; rfl)) ?_
             with_reducible refine (impl_NameValid.calls k2 ((rd_T83 (rd_L4 y163 x13_1) x19_2).f0) true _ A13.out).mono ?_
             rintro e w' ⟨rfl, ⟨nd, rfl⟩⟩
             refine ⟨_, rfl, ?_⟩
             refine hK.out _ _ ⟨(blk_cell BK168.out 0).trans rfl, (blk_cell BK168.out 1).trans rfl⟩ (fun hHeld => ?_)
             clear hK K
             refine norm_ (a' := ?_) ?_ ?_
             rotate_left
             ·
              show Act.put _ (some 26) _ = _
              simp only [Act.put, List.setIfInBounds_toArray, List.set_cons_zero, List.set_cons_succ, i64_w, i32_w]
              rfl
             refine pure_ (i := 3) (N := some 27) (v := ?_) (a' := ?_) impl_SchemaValid.m4 rfl rfl (any_of HT_.out (by kernel_rfl)) (fun _ _ _ h => h) (Or.inl ⟨by rfl, ?_⟩) ?_ ?_
             rotate_left
             ·
              intro w'
              go_simp
              with_reducible rfl
             rotate_left
             ·
              simp only [Act.put, List.setIfInBounds_toArray, List.set_cons_zero, List.set_cons_succ, i64_w, i32_w]
              rfl
             refine pure_ (i := 4) (N := some 28) (v := ?_) (a' := ?_) impl_SchemaValid.m5 rfl rfl (any_of HT_.out (by kernel_rfl)) (fun _ _ _ h => h) (Or.inl ⟨by rfl, ?_⟩) ?_ ?_
             rotate_left
             ·
              intro w'
              go_simp
              with_reducible rfl
             rotate_left
             ·
              simp only [Act.put, List.setIfInBounds_toArray, List.set_cons_zero, List.set_cons_succ, i64_w, i32_w]
              rfl
             refine pure_ (i := 5) (N := some 29) (v := ?_) (a' := ?_) impl_SchemaValid.m6 rfl rfl (any_of HT_.out (by kernel_rfl)) (fun _ _ _ h => h) (Or.inl ⟨by rfl, ?_⟩) ?_ ?_
             rotate_left
             ·
              intro w'
              go_simp
              with_reducible rfl
             rotate_left
             ·
              simp only [Act.put, List.setIfInBounds_toArray, List.set_cons_zero, List.set_cons_succ, i64_w, i32_w]
              rfl
             refine take_ (i := 6) (N := some 30) (v := ?_) (a' := ?_) impl_SchemaValid.m7 rfl rfl (take_ofW HT_.out HW_.out (by kernel_rfl)) (fun _ _ _ h => h) (Or.inl ⟨by rfl, ?_⟩) hHeld ?_ ?_
             rotate_left
             ·
              rintro w' ⟨s0, s1⟩
              go_simp
              with_reducible rfl
             rotate_left
             ·
              simp only [Act.put, List.setIfInBounds_toArray, List.set_cons_zero, List.set_cons_succ, i64_w, i32_w]
              rfl
             refine one_ (i := 7) (N := some 31) impl_SchemaValid.m8 rfl rfl (one_of HT_.out (by kernel_rfl)) (by decide) (fun K hK => ?_)
             refine goes_ Try.func44 (by kernel_rfl) rfl #[.int .i64 ((rd_T83 (rd_L4 y163 x13_1) x19_2).f1), .int .i64 1, .int .i64 3] (by rfl) rfl rfl (by (try simp only [List.map_toArray, List.map_cons, List.map_nil]); first | done | rfl | (simp only [List.length_drop, List.length_take]; rfl)) ?_
             with_reducible refine (impl_in.calls ((rd_T83 (rd_L4 y163 x13_1) x19_2).f1) 1 3 false _ A15.out).mono ?_
             rintro e w' ⟨rfl, ⟨nd, rfl⟩⟩
             refine ⟨_, rfl, ?_⟩
             refine hK.out _ _ ⟨(blk_cell BK168.out 0).trans rfl, (blk_cell BK168.out 1).trans rfl⟩ (fun hHeld => ?_)
             clear hK K
             refine norm_ (a' := ?_) ?_ ?_
             rotate_left
             ·
              show Act.put _ (some 31) _ = _
              simp only [Act.put, List.setIfInBounds_toArray, List.set_cons_zero, List.set_cons_succ, i64_w, i32_w]
              rfl
             refine pure_ (i := 8) (N := some 32) (v := ?_) (a' := ?_) impl_SchemaValid.m9 rfl rfl (any_of HT_.out (by kernel_rfl)) (fun _ _ _ h => h) (Or.inl ⟨by rfl, ?_⟩) ?_ ?_
             rotate_left
             ·
              intro w'
              go_simp
              with_reducible rfl
             rotate_left
             ·
              simp only [Act.put, List.setIfInBounds_toArray, List.set_cons_zero, List.set_cons_succ, i64_w, i32_w]
              rfl
             refine pure_ (i := 9) (N := some 33) (v := ?_) (a' := ?_) impl_SchemaValid.m10 rfl rfl (any_of HT_.out (by kernel_rfl)) (fun _ _ _ h => h) (Or.inl ⟨by rfl, ?_⟩) ?_ ?_
             rotate_left
             ·
              intro w'
              go_simp
              with_reducible rfl
             rotate_left
             ·
              simp only [Act.put, List.setIfInBounds_toArray, List.set_cons_zero, List.set_cons_succ, i64_w, i32_w]
              rfl
             refine pure_ (i := 10) (N := some 34) (v := ?_) (a' := ?_) impl_SchemaValid.m11 rfl rfl (any_of HT_.out (by kernel_rfl)) (fun _ _ _ h => h) (Or.inl ⟨by rfl, ?_⟩) ?_ ?_
             rotate_left
             ·
              intro w'
              go_simp
              with_reducible rfl
             rotate_left
             ·
              simp only [Act.put, List.setIfInBounds_toArray, List.set_cons_zero, List.set_cons_succ, i64_w, i32_w]
              rfl
             refine pure_ (i := 11) (N := some 35) (v := undef) (a' := ?_) impl_SchemaValid.m12 rfl rfl (any_of HT_.out (by kernel_rfl)) (fun _ _ _ h => h) (Or.inr ⟨by rfl, rfl⟩) ?_ ?_
             rotate_left
             ·
              simp only [Act.put, List.setIfInBounds_toArray, List.set_cons_zero, List.set_cons_succ, i64_w, i32_w]
              rfl
             refine pure_ (i := 12) (N := some 36) (v := undef) (a' := ?_) impl_SchemaValid.m13 rfl rfl (any_of HT_.out (by kernel_rfl)) (fun _ _ _ h => h) (Or.inr ⟨by rfl, rfl⟩) ?_ ?_
             rotate_left
             ·
              simp only [Act.put, List.setIfInBounds_toArray, List.set_cons_zero, List.set_cons_succ, i64_w, i32_w]
              rfl
             refine pure_ (i := 13) (N := some 37) (v := undef) (a' := ?_) impl_SchemaValid.m14 rfl rfl (any_of HT_.out (by kernel_rfl)) (fun _ _ _ h => h) (Or.inr ⟨by rfl, rfl⟩) ?_ ?_
             rotate_left
             ·
              simp only [Act.put, List.setIfInBounds_toArray, List.set_cons_zero, List.set_cons_succ, i64_w, i32_w]
              rfl
             refine pure_ (i := 14) (N := some 38) (v := undef) (a' := ?_) impl_SchemaValid.m15 rfl rfl (any_of HT_.out (by kernel_rfl)) (fun _ _ _ h => h) (Or.inr ⟨by rfl, rfl⟩) ?_ ?_
             rotate_left
             ·
              simp only [Act.put, List.setIfInBounds_toArray, List.set_cons_zero, List.set_cons_succ, i64_w, i32_w]
              rfl
             refine pure_ (i := 15) (N := some 39) (v := undef) (a' := ?_) impl_SchemaValid.m16 rfl rfl (any_of HT_.out (by kernel_rfl)) (fun _ _ _ h => h) (Or.inr ⟨by rfl, rfl⟩) ?_ ?_
             rotate_left
             ·
              simp only [Act.put, List.setIfInBounds_toArray, List.set_cons_zero, List.set_cons_succ, i64_w, i32_w]
              rfl
             refine pure_ (i := 16) (N := some 40) (v := undef) (a' := ?_) impl_SchemaValid.m17 rfl rfl (any_of HT_.out (by kernel_rfl)) (fun _ _ _ h => h) (Or.inr ⟨by rfl, rfl⟩) ?_ ?_
             rotate_left
             ·
              simp only [Act.put, List.setIfInBounds_toArray, List.set_cons_zero, List.set_cons_succ, i64_w, i32_w]
              rfl
             refine pure_ (i := 17) (N := some 41) (v := undef) (a' := ?_) impl_SchemaValid.m18 rfl rfl (any_of HT_.out (by kernel_rfl)) (fun _ _ _ h => h) (Or.inr ⟨by rfl, rfl⟩) ?_ ?_
             rotate_left
             ·
              simp only [Act.put, List.setIfInBounds_toArray, List.set_cons_zero, List.set_cons_succ, i64_w, i32_w]
              rfl
             refine pure_ (i := 18) (N := some 42) (v := ?_) (a' := ?_) impl_SchemaValid.m19 rfl rfl (any_of HT_.out (by kernel_rfl)) (fun _ _ _ h => h) (Or.inl ⟨by rfl, ?_⟩) ?_ ?_
             rotate_left
             ·
              intro w'
              go_simp
              with_reducible rfl
             rotate_left
             ·
              simp only [Act.put, List.setIfInBounds_toArray, List.set_cons_zero, List.set_cons_succ, i64_w, i32_w]
              rfl
             refine done_ (done_of HT_.out (by kernel_rfl)) ?_
             try go_wp2
             go_ret
             exact ⟨by first | rfl | (simp [errW_none, errW_some] <;> rfl) | (simp [*, errW_none, errW_some] <;> rfl), by exact bw HB.out⟩
           ·
            replace c14 := Bool.eq_false_iff.mpr c14
            subst c14
            have H1 : (some false) = some r := by rw [if_neg (show ¬ (false = true) by decide)] at H; exact H
            clear H
            have H := H1
            clear H1
            obtain rfl := Option.some.inj H
            have p167 : 0 ≤ (x19_2 : Int) := of_decide_eq_true (by first | (with_reducible assumption) | assumption)
            have q167 : x19_2 < ((rd_L4 y163 x13_1).length : Int) := of_decide_eq_true (by first | (with_reducible assumption) | assumption)
            obtain ⟨ad167, e167, hx167_0, hx167_1⟩ := at_T83 HR166_0.out x19_2 p167 q167
            cases e167
            first | replace hx167_0 := (HB.out.cell (World.block_lt_of_cell? w _ hx167_0)).trans hx167_0 | skip
            first | replace hx167_1 := (HB.out.cell (World.block_lt_of_cell? w _ hx167_1)).trans hx167_1 | skip
            replace p167 := eq_true p167
            replace q167 := eq_true q167
            try go_wp2_with (first | ((with_reducible refine gate_dst (N := 6) rfl ?_); refine box_event ?hg (N := 6) ?hd (cs := #[.string (⟨#[]⟩ : ByteArray), .int .i64 0]) (t := 83) ?hr ?_; (case hd => rfl); (case hg => rfl); (case hr => first | (go_simp; done) | (go_simp; rfl)); intro gb168 hg w40 hbox hb; have n0_ := Aside0.mk (Kd.N_below (Kd.N_elderB (by exact Kd.xN HO_11.out) gb168 (Nat.le_of_eq hg.symm)) hb); have n1_ := Aside0.mk (Kd.V_below (Kd.V_elderB (by exact Kd.xV HO_163000.out) gb168 (Nat.le_of_eq hg.symm)) hb); have n2_ := Aside0.mk (Kd.V_below (Kd.V_elderB (by exact Kd.xV HO_163001.out) gb168 (Nat.le_of_eq hg.symm)) hb); have n3_ := Aside0.mk ((⟨_, by repeat (first | (with_reducible exact HR166_0.out) | (with_reducible refine Kd.C_alloc ?_ _) | (with_reducible refine Kd.C_drewN ?_ _) | (with_reducible refine Kd.C_drew ?_) | exact HR166_0.out), Nat.le_of_eq hg.symm, hb⟩ : ∃ W0_ : World, Kd.C k83 W0_ (some ad167) (rd_L4 y163 x13_1).length (rd_L4 y163 x13_1) ∧ W0_.heap.size ≤ gb168 ∧ Below W0_.heap.size W0_ w40)); have n4_ := Aside0.mk (blk_below (g := gb162) (o := .cells #[.slice A0_0 l0_0.length c0_0, .slice A0_1 l0_1.length c0_1] 25 (0, 0)) (by exact bk BK162.out) hb); have n5_ := Aside0.mk (Kd.C_below (by repeat (first | (with_reducible exact HR166_0.out) | (with_reducible refine Kd.C_alloc ?_ _) | (with_reducible refine Kd.C_drewN ?_ _) | (with_reducible refine Kd.C_drew ?_) | exact HR166_0.out)) hb); have n6_ := Aside0.mk (below_step (by exact bw HB.out) hb); have n7_ := Aside0.mk (hbox); have n8_ := Aside0.mk ((by rw [hg]; exact (below_size (by exact bw HB.out)) : w.heap.size ≤ gb168)); have n9_ := Aside0.mk ((by rw [hg]; exact (below_size (by exact bw HB.out)) : w.heap.size ≤ gb168)); have n10_ := Aside0.mk ((by rw [hg]; exact Nat.ne_of_lt (blk_lt (g := gb162) (o := .cells #[.slice A0_0 l0_0.length c0_0, .slice A0_1 l0_1.length c0_1] 25 (0, 0)) (by exact bk BK162.out)) : gb162 ≠ gb168)); have n11_ := Aside0.mk ((by rw [hg]; exact Nat.ne_of_gt (blk_lt (g := gb162) (o := .cells #[.slice A0_0 l0_0.length c0_0, .slice A0_1 l0_1.length c0_1] 25 (0, 0)) (by exact bk BK162.out)) : gb168 ≠ gb162)); clear HO_11; clear HO_163000; clear HO_163001; clear BK162; clear HR166_0; clear HB; have HO_11 := n0_; have HO_163000 := n1_; have HO_163001 := n2_; have SB168_HR166_0 := n3_; have BK162 := n4_; have HR166_0 := n5_; have HB := n6_; have BK168 := n7_; have GW168 := n8_; have GE168 := n9_; have NB162_168 := n10_; have NB168_162 := n11_; clear n0_ n1_ n2_ n3_ n4_ n5_ n6_ n7_ n8_ n9_ n10_ n11_; clear hb hbox hg; have hnb41 := NB168_162.out; have hnc41 := NB162_168.out; have hcz42_0 : w40.cell? ⟨gb168, 0, none⟩ = some (.string (⟨#[]⟩ : ByteArray)) := (blk_cell BK168.out 0).trans rfl; have hcz42_1 : w40.cell? ⟨gb168, 1, none⟩ = some (.int .i64 0) := (blk_cell BK168.out 1).trans rfl; have hfz42_0 := blk_frozen BK168.out 0; have hfz42_1 := blk_frozen BK168.out 1))
            have n0_ : Aside0 (Kd.N (Kd.slice 83 k83) 23 ((w40.setCell ⟨gb168, 0, none⟩ (.string ((rd_T83 (rd_L4 y163 x13_1) x19_2).f0))).setCell ⟨gb168, 1, none⟩ (.int .i64 ((rd_T83 (rd_L4 y163 x13_1) x19_2).f1))) w.heap.size (fun k_ => ((P0_0_ k_ ∨ P0_1_ k_) ∨ w.heap.size ≤ k_) ∧ k_ ≠ gb162 ∧ k_ ≠ gb168) (.slice (some ad166) y163.length co6) y163) := ⟨by (with_reducible repeat (first | apply Kd.N_alloc | apply Kd.N_drewN | apply Kd.N_drew)); exact Kd.N_mono (Kd.N_far (p := ⟨gb168, 1, none⟩) (Kd.N_far (p := ⟨gb168, 0, none⟩) (Kd.N_mono HO_11.out (fun k_ hk => (⟨hk, okp hk⟩ : _ ∧ k_ ≠ gb168))) (fun _ hk => hk.2) (.string ((rd_T83 (rd_L4 y163 x13_1) x19_2).f0))) (fun _ hk => hk.2) (.int .i64 ((rd_T83 (rd_L4 y163 x13_1) x19_2).f1))) (fun _ hk => okp hk)⟩
            have n1_ : Aside0 (Kd.V k83 83 ((w40.setCell ⟨gb168, 0, none⟩ (.string ((rd_T83 (rd_L4 y163 x13_1) x19_2).f0))).setCell ⟨gb168, 1, none⟩ (.int .i64 ((rd_T83 (rd_L4 y163 x13_1) x19_2).f1))) w.heap.size (fun k_ => ((P0_0_ k_ ∨ P0_1_ k_) ∨ w.heap.size ≤ k_) ∧ some k_ ≠ (.slice (some ad166) y163.length co6 : Value).ownBlock ∧ k_ ≠ gb162 ∧ k_ ≠ gb168) (.slice A0_0 l0_0.length c0_0) l0_0) := ⟨by (with_reducible repeat (first | apply Kd.V_alloc | apply Kd.V_drewN | apply Kd.V_drew)); exact Kd.V_mono (Kd.V_far (p := ⟨gb168, 1, none⟩) (Kd.V_far (p := ⟨gb168, 0, none⟩) (Kd.V_mono HO_163000.out (fun k_ hk => (⟨hk, okp hk⟩ : _ ∧ k_ ≠ gb168))) (fun _ hk => hk.2) (.string ((rd_T83 (rd_L4 y163 x13_1) x19_2).f0))) (fun _ hk => hk.2) (.int .i64 ((rd_T83 (rd_L4 y163 x13_1) x19_2).f1))) (fun _ hk => okp hk)⟩
            have n2_ : Aside0 (Kd.V k83 83 ((w40.setCell ⟨gb168, 0, none⟩ (.string ((rd_T83 (rd_L4 y163 x13_1) x19_2).f0))).setCell ⟨gb168, 1, none⟩ (.int .i64 ((rd_T83 (rd_L4 y163 x13_1) x19_2).f1))) w.heap.size (fun k_ => ((P0_0_ k_ ∨ P0_1_ k_) ∨ w.heap.size ≤ k_) ∧ some k_ ≠ (.slice (some ad166) y163.length co6 : Value).ownBlock ∧ k_ ≠ gb162 ∧ k_ ≠ gb168) (.slice A0_1 l0_1.length c0_1) l0_1) := ⟨by (with_reducible repeat (first | apply Kd.V_alloc | apply Kd.V_drewN | apply Kd.V_drew)); exact Kd.V_mono (Kd.V_far (p := ⟨gb168, 1, none⟩) (Kd.V_far (p := ⟨gb168, 0, none⟩) (Kd.V_mono HO_163001.out (fun k_ hk => (⟨hk, okp hk⟩ : _ ∧ k_ ≠ gb168))) (fun _ hk => hk.2) (.string ((rd_T83 (rd_L4 y163 x13_1) x19_2).f0))) (fun _ hk => hk.2) (.int .i64 ((rd_T83 (rd_L4 y163 x13_1) x19_2).f1))) (fun _ hk => okp hk)⟩
            have n3_ : Aside0 (((w40.setCell ⟨gb168, 0, none⟩ (.string ((rd_T83 (rd_L4 y163 x13_1) x19_2).f0))).setCell ⟨gb168, 1, none⟩ (.int .i64 ((rd_T83 (rd_L4 y163 x13_1) x19_2).f1))).heap[gb162]? = some (.cells #[.slice A0_0 l0_0.length c0_0, .slice A0_1 l0_1.length c0_1] 25 (0, 0))) := ⟨by (with_reducible repeat (first | refine blk_drewN ?_ _ | refine blk_drew ?_ | refine blk_alloc ?_ _)); refine blk_far ?_ NB162_168.out _; (with_reducible repeat (first | refine blk_drewN ?_ _ | refine blk_drew ?_ | refine blk_alloc ?_ _)); refine blk_far ?_ NB162_168.out _; exact bk BK162.out⟩
            have n4_ : Aside0 (((w40.setCell ⟨gb168, 0, none⟩ (.string ((rd_T83 (rd_L4 y163 x13_1) x19_2).f0))).setCell ⟨gb168, 1, none⟩ (.int .i64 ((rd_T83 (rd_L4 y163 x13_1) x19_2).f1))).heap[gb168]? = some (.cells #[.string ((rd_T83 (rd_L4 y163 x13_1) x19_2).f0), .int .i64 ((rd_T83 (rd_L4 y163 x13_1) x19_2).f1)] 83 (0, 0))) := ⟨by (with_reducible repeat (first | refine blk_drewN ?_ _ | refine blk_drew ?_ | refine blk_alloc ?_ _)); refine blk_put (cs := #[.string ((rd_T83 (rd_L4 y163 x13_1) x19_2).f0), .int .i64 0]) ?_ 1 _ rfl; (with_reducible repeat (first | refine blk_drewN ?_ _ | refine blk_drew ?_ | refine blk_alloc ?_ _)); refine blk_put (cs := #[.string (⟨#[]⟩ : ByteArray), .int .i64 0]) ?_ 0 _ rfl; exact bk BK168.out⟩
            have n5_ : Aside0 (Below w.heap.size w ((w40.setCell ⟨gb168, 0, none⟩ (.string ((rd_T83 (rd_L4 y163 x13_1) x19_2).f0))).setCell ⟨gb168, 1, none⟩ (.int .i64 ((rd_T83 (rd_L4 y163 x13_1) x19_2).f1)))) := ⟨by exact bw HB.out⟩
            have n6_ : Aside0 (Kd.C k83 ((w40.setCell ⟨gb168, 0, none⟩ (.string ((rd_T83 (rd_L4 y163 x13_1) x19_2).f0))).setCell ⟨gb168, 1, none⟩ (.int .i64 ((rd_T83 (rd_L4 y163 x13_1) x19_2).f1))) (some ad167) (rd_L4 y163 x13_1).length (rd_L4 y163 x13_1)) := ⟨(let ⟨W0_, h1_, h2_, h3_⟩ := SB168_HR166_0.out; Kd.C_below h1_ (by repeat (first | exact h3_ | refine below_set ?_ (Nat.le_trans h2_ (by first | exact Nat.le_refl _ | exact Nat.le_of_eq rfl)))))⟩
            (try clear HO_11)
            (try clear HO_163000)
            (try clear HO_163001)
            (try clear BK162)
            (try clear BK168)
            (try clear HB)
            (try clear HR166_0)
            generalize ((w40.setCell ⟨gb168, 0, none⟩ (.string ((rd_T83 (rd_L4 y163 x13_1) x19_2).f0))).setCell ⟨gb168, 1, none⟩ (.int .i64 ((rd_T83 (rd_L4 y163 x13_1) x19_2).f1))) = w43 at n0_ n1_ n2_ n3_ n4_ n5_ n6_ ⊢
            have HO_11 := n0_
            have HO_163000 := n1_
            have HO_163001 := n2_
            have BK162 := n3_
            have BK168 := n4_
            have HB := n5_
            have HR166_0 := n6_
            clear n0_ n1_ n2_ n3_ n4_ n5_ n6_
            have n0_ := Aside0.mk (Kd.N_drew HO_11.out)
            have n1_ := Aside0.mk (Kd.V_drew HO_163000.out)
            have n2_ := Aside0.mk (Kd.V_drew HO_163001.out)
            have n3_ := Aside0.mk (blk_drew BK162.out)
            have n4_ := Aside0.mk (blk_drew BK168.out)
            have n5_ := Aside0.mk (Kd.C_drew HR166_0.out)
            have n6_ := Aside0.mk (below_drew1 HB.out)
            clear HO_11
            clear HO_163000
            clear HO_163001
            clear BK162
            clear BK168
            clear HR166_0
            clear HB
            have HO_11 := n0_
            have HO_163000 := n1_
            have HO_163001 := n2_
            have BK162 := n3_
            have BK168 := n4_
            have HR166_0 := n5_
            have HB := n6_
            clear n0_ n1_ n2_ n3_ n4_ n5_ n6_
            refine start_ (n := 19) (S := fun w' => w'.cell? ⟨gb168, 0, none⟩ = some (.string ((rd_T83 (rd_L4 y163 x13_1) x19_2).f0)) ∧ w'.cell? ⟨gb168, 1, none⟩ = some (.int .i64 ((rd_T83 (rd_L4 y163 x13_1) x19_2).f1))) (ds := []) impl_SchemaValid.m0 (by kernel_rfl) rfl rfl ⟨(blk_cell BK168.out 0).trans rfl, (blk_cell BK168.out 1).trans rfl⟩ (fun hHeld => ?_); refine with_tabW impl_SchemaValid.tab7 impl_SchemaValid.bits7 (fun HT_ HW_ => ?_)
            generalize w43.drew = w44 at HO_11 HO_163000 HO_163001 BK162 BK168 HR166_0 HB hHeld ⊢
            refine pure_ (i := 0) (N := some 24) (v := ?_) (a' := ?_) impl_SchemaValid.m1 rfl rfl (any_of HT_.out (by kernel_rfl)) (fun _ _ _ h => h) (Or.inl ⟨by rfl, ?_⟩) ?_ ?_
            rotate_left
            ·
             intro w'
             go_simp
             with_reducible rfl
            rotate_left
            ·
             simp only [Act.put, List.setIfInBounds_toArray, List.set_cons_zero, List.set_cons_succ, i64_w, i32_w]
             rfl
            refine take_ (i := 1) (N := some 25) (v := ?_) (a' := ?_) impl_SchemaValid.m2 rfl rfl (take_ofW HT_.out HW_.out (by kernel_rfl)) (fun _ _ _ h => h) (Or.inl ⟨by rfl, ?_⟩) hHeld ?_ ?_
            rotate_left
            ·
             rintro w' ⟨s0, s1⟩
             go_simp
             with_reducible rfl
            rotate_left
            ·
             simp only [Act.put, List.setIfInBounds_toArray, List.set_cons_zero, List.set_cons_succ, i64_w, i32_w]
             rfl
            refine one_ (i := 2) (N := some 26) impl_SchemaValid.m3 rfl rfl (one_of HT_.out (by kernel_rfl)) (by decide) (fun K hK => ?_)
            refine goes_ Try.func43 (by kernel_rfl) rfl #[.string ((rd_T83 (rd_L4 y163 x13_1) x19_2).f0)] (by rfl) rfl rfl (by (try simp only [List.map_toArray, List.map_cons, List.map_nil]); first | done | rfl | (simp only [List.length_drop, List.length_take]; rfl)) ?_
            with_reducible refine (impl_NameValid.calls k2 ((rd_T83 (rd_L4 y163 x13_1) x19_2).f0) false _ A13.out).mono ?_
            rintro e w' ⟨rfl, ⟨nd, rfl⟩⟩
            refine ⟨_, rfl, ?_⟩
            refine hK.out _ _ ⟨(blk_cell BK168.out 0).trans rfl, (blk_cell BK168.out 1).trans rfl⟩ (fun hHeld => ?_)
            clear hK K
            refine norm_ (a' := ?_) ?_ ?_
            rotate_left
            ·
             show Act.put _ (some 26) _ = _
             simp only [Act.put, List.setIfInBounds_toArray, List.set_cons_zero, List.set_cons_succ, i64_w, i32_w]
             rfl
            refine pure_ (i := 3) (N := some 27) (v := ?_) (a' := ?_) impl_SchemaValid.m4 rfl rfl (any_of HT_.out (by kernel_rfl)) (fun _ _ _ h => h) (Or.inl ⟨by rfl, ?_⟩) ?_ ?_
            rotate_left
            ·
             intro w'
             go_simp
             with_reducible rfl
            rotate_left
            ·
             simp only [Act.put, List.setIfInBounds_toArray, List.set_cons_zero, List.set_cons_succ, i64_w, i32_w]
             rfl
            refine pure_ (i := 4) (N := some 28) (v := ?_) (a' := ?_) impl_SchemaValid.m5 rfl rfl (any_of HT_.out (by kernel_rfl)) (fun _ _ _ h => h) (Or.inl ⟨by rfl, ?_⟩) ?_ ?_
            rotate_left
            ·
             intro w'
             go_simp
             with_reducible rfl
            rotate_left
            ·
             simp only [Act.put, List.setIfInBounds_toArray, List.set_cons_zero, List.set_cons_succ, i64_w, i32_w]
             rfl
            refine pure_ (i := 5) (N := some 29) (v := undef) (a' := ?_) impl_SchemaValid.m6 rfl rfl (any_of HT_.out (by kernel_rfl)) (fun _ _ _ h => h) (Or.inr ⟨by rfl, rfl⟩) ?_ ?_
            rotate_left
            ·
             simp only [Act.put, List.setIfInBounds_toArray, List.set_cons_zero, List.set_cons_succ, i64_w, i32_w]
             rfl
            refine pure_ (i := 6) (N := some 30) (v := undef) (a' := ?_) impl_SchemaValid.m7 rfl rfl (any_of HT_.out (by kernel_rfl)) (fun _ _ _ h => h) (Or.inr ⟨by rfl, rfl⟩) ?_ ?_
            rotate_left
            ·
             simp only [Act.put, List.setIfInBounds_toArray, List.set_cons_zero, List.set_cons_succ, i64_w, i32_w]
             rfl
            refine pure_ (i := 7) (N := some 31) (v := undef) (a' := ?_) impl_SchemaValid.m8 rfl rfl (any_of HT_.out (by kernel_rfl)) (fun _ _ _ h => h) (Or.inr ⟨by rfl, rfl⟩) ?_ ?_
            rotate_left
            ·
             simp only [Act.put, List.setIfInBounds_toArray, List.set_cons_zero, List.set_cons_succ, i64_w, i32_w]
             rfl
            refine pure_ (i := 8) (N := some 32) (v := undef) (a' := ?_) impl_SchemaValid.m9 rfl rfl (any_of HT_.out (by kernel_rfl)) (fun _ _ _ h => h) (Or.inr ⟨by rfl, rfl⟩) ?_ ?_
            rotate_left
            ·
             simp only [Act.put, List.setIfInBounds_toArray, List.set_cons_zero, List.set_cons_succ, i64_w, i32_w]
             rfl
            refine pure_ (i := 9) (N := some 33) (v := ?_) (a' := ?_) impl_SchemaValid.m10 rfl rfl (any_of HT_.out (by kernel_rfl)) (fun _ _ _ h => h) (Or.inl ⟨by rfl, ?_⟩) ?_ ?_
            rotate_left
            ·
             intro w'
             go_simp
             with_reducible rfl
            rotate_left
            ·
             simp only [Act.put, List.setIfInBounds_toArray, List.set_cons_zero, List.set_cons_succ, i64_w, i32_w]
             rfl
            refine pure_ (i := 10) (N := some 34) (v := ?_) (a' := ?_) impl_SchemaValid.m11 rfl rfl (any_of HT_.out (by kernel_rfl)) (fun _ _ _ h => h) (Or.inl ⟨by rfl, ?_⟩) ?_ ?_
            rotate_left
            ·
             intro w'
             go_simp
             with_reducible rfl
            rotate_left
            ·
             simp only [Act.put, List.setIfInBounds_toArray, List.set_cons_zero, List.set_cons_succ, i64_w, i32_w]
             rfl
            refine pure_ (i := 11) (N := some 35) (v := undef) (a' := ?_) impl_SchemaValid.m12 rfl rfl (any_of HT_.out (by kernel_rfl)) (fun _ _ _ h => h) (Or.inr ⟨by rfl, rfl⟩) ?_ ?_
            rotate_left
            ·
             simp only [Act.put, List.setIfInBounds_toArray, List.set_cons_zero, List.set_cons_succ, i64_w, i32_w]
             rfl
            refine pure_ (i := 12) (N := some 36) (v := undef) (a' := ?_) impl_SchemaValid.m13 rfl rfl (any_of HT_.out (by kernel_rfl)) (fun _ _ _ h => h) (Or.inr ⟨by rfl, rfl⟩) ?_ ?_
            rotate_left
            ·
             simp only [Act.put, List.setIfInBounds_toArray, List.set_cons_zero, List.set_cons_succ, i64_w, i32_w]
             rfl
            refine pure_ (i := 13) (N := some 37) (v := undef) (a' := ?_) impl_SchemaValid.m14 rfl rfl (any_of HT_.out (by kernel_rfl)) (fun _ _ _ h => h) (Or.inr ⟨by rfl, rfl⟩) ?_ ?_
            rotate_left
            ·
             simp only [Act.put, List.setIfInBounds_toArray, List.set_cons_zero, List.set_cons_succ, i64_w, i32_w]
             rfl
            refine pure_ (i := 14) (N := some 38) (v := undef) (a' := ?_) impl_SchemaValid.m15 rfl rfl (any_of HT_.out (by kernel_rfl)) (fun _ _ _ h => h) (Or.inr ⟨by rfl, rfl⟩) ?_ ?_
            rotate_left
            ·
             simp only [Act.put, List.setIfInBounds_toArray, List.set_cons_zero, List.set_cons_succ, i64_w, i32_w]
             rfl
            refine pure_ (i := 15) (N := some 39) (v := undef) (a' := ?_) impl_SchemaValid.m16 rfl rfl (any_of HT_.out (by kernel_rfl)) (fun _ _ _ h => h) (Or.inr ⟨by rfl, rfl⟩) ?_ ?_
            rotate_left
            ·
             simp only [Act.put, List.setIfInBounds_toArray, List.set_cons_zero, List.set_cons_succ, i64_w, i32_w]
             rfl
            refine pure_ (i := 16) (N := some 40) (v := undef) (a' := ?_) impl_SchemaValid.m17 rfl rfl (any_of HT_.out (by kernel_rfl)) (fun _ _ _ h => h) (Or.inr ⟨by rfl, rfl⟩) ?_ ?_
            rotate_left
            ·
             simp only [Act.put, List.setIfInBounds_toArray, List.set_cons_zero, List.set_cons_succ, i64_w, i32_w]
             rfl
            refine pure_ (i := 17) (N := some 41) (v := undef) (a' := ?_) impl_SchemaValid.m18 rfl rfl (any_of HT_.out (by kernel_rfl)) (fun _ _ _ h => h) (Or.inr ⟨by rfl, rfl⟩) ?_ ?_
            rotate_left
            ·
             simp only [Act.put, List.setIfInBounds_toArray, List.set_cons_zero, List.set_cons_succ, i64_w, i32_w]
             rfl
            refine pure_ (i := 18) (N := some 42) (v := ?_) (a' := ?_) impl_SchemaValid.m19 rfl rfl (any_of HT_.out (by kernel_rfl)) (fun _ _ _ h => h) (Or.inl ⟨by rfl, ?_⟩) ?_ ?_
            rotate_left
            ·
             intro w'
             go_simp
             with_reducible rfl
            rotate_left
            ·
             simp only [Act.put, List.setIfInBounds_toArray, List.set_cons_zero, List.set_cons_succ, i64_w, i32_w]
             rfl
            refine done_ (done_of HT_.out (by kernel_rfl)) ?_
            try go_wp2
            go_ret
            exact ⟨by first | rfl | (simp [errW_none, errW_some] <;> rfl) | (simp [*, errW_none, errW_some] <;> rfl), by exact bw HB.out⟩
          ·
           rw [if_neg c12] at H
           exact absurd H (by simp)
         ·
          rw [if_neg c11] at H
          exact absurd H (by simp)
        ·
         rw [if_neg c10] at H
         have c10b0 : decide (x19_2 < ((rd_L4 y163 x13_1).length : Int)) = false := decide_eq_false c10
         clear c10
         by_cases c45 : ((rd_L4 y163 x13_1).length : Int) > 6
         ·
          rw [if_pos c45] at H
          have c45b0 : decide (6 < ((rd_L4 y163 x13_1).length : Int)) = true := decide_eq_true c45
          have c45b1 : decide (6 < (rd_L4 y163 x13_1).length) = true := decide_eq_true (by omega)
          clear c45
          obtain rfl := Option.some.inj H
          go_wp2
          go_ret
          exact ⟨by first | rfl | (simp [errW_none, errW_some] <;> rfl) | (simp [*, errW_none, errW_some] <;> rfl), by exact bw HB.out⟩
         ·
          rw [if_neg c45] at H
          have c45b0 : decide (6 < ((rd_L4 y163 x13_1).length : Int)) = false := decide_eq_false c45
          have c45b1 : decide (6 < (rd_L4 y163 x13_1).length) = false := decide_eq_false (by omega)
          clear c45
          have H' := Aside0.mk H
          clear H
          go_wp2
          go_roundg k2
          case measure => have := HK1.out; have := HK2.out; omega
          case rel => exact ⟨(wrap64 (x13_1 + 1)), (by first | rfl | (simp; done) | (simp [*]; done)), H', ⟨by have := HK1.out; have := HK2.out; omega⟩, ⟨by exact Kd.xN HO_11.out⟩, ⟨by exact Kd.xV HO_163000.out⟩, ⟨by exact Kd.xV HO_163001.out⟩, ⟨by exact bk BK162.out⟩, ⟨by exact bw HB.out⟩⟩
     ·
      rw [if_neg c9] at H
      exact absurd H (by simp)
    ·
     rw [if_neg c8] at H
     exact absurd H (by simp)
   ·
    rw [if_neg c7] at H
    have c7b0 : decide (x13_1 < (y163.length : Int)) = false := decide_eq_false c7
    clear c7
    obtain rfl := Option.some.inj H
    go_wp2
    go_ret
    exact ⟨by first | rfl | (simp [errW_none, errW_some] <;> rfl) | (simp [*, errW_none, errW_some] <;> rfl), by exact bw HB.out⟩

end Go.Proofs.Ytejfaenmgdkaoaa.P
