-- Written by a program of this session (wip/tool).
import Derived.Test.YtbbbgochcfccgaaPx0
import Derived.Test.YtbbbgochcfccgaaPx1064
namespace Go.Proofs.Ytbbbgochcfccgaa.P
open Go.RowKit Go.Proofs.YtbbbgochcfccgaaW.PrintWords Go.Proofs.YtbbbgochcfccgaaW.PrintLast Go.Proofs.YtbbbgochcfccgaaW.PrintMore
attribute [local go_sem] max2_int min2_int max_two min_two max_three min_three max_four min_four   -- for this text's walks alone
set_option linter.unusedVariables false
set_option linter.unusedSimpArgs false

/-! ### spec_l8Kind: function 38 -/
mutual
def spec_l8Kind.l0 : Nat → List Int → Int → List (S91) → List (S91) → Int → Int → ByteArray → List (S29) → Option (Int)
 | 0, _, _, _, _, _, _, _, _ => none
 | k + 1, x5, x6, x239000, x239001, x240000, x240001, x240002, x240003 => if x6 < (x240003.length : Int) then (if 0 ≤ x6 then ((spec_l8Kind.f k x239000 x239001 ((rd_T29 x240003 x6).f0) ((rd_T29 x240003 x6).f1) ((rd_T29 x240003 x6).f2) ((rd_T29 x240003 x6).f3)).bind fun t244 => (if x5.length < 17592186044416 then ((some (x5 ++ [t244] : List Int)).bind fun y245 => (if x6 < (y245.length : Int) then (if (rd y245 x6) = 0 then (some 0) else (spec_l8Kind.l0 k y245 (wrap64 (x6 + 1)) x239000 x239001 x240000 x240001 x240002 x240003)) else (none))) else (none))) else (none)) else (if x240000 = 2 then (spec_l8Kind.j1 k x5 true 1 x240000 (x240000 == 2) x239000 x239001 x240000 x240001 x240002 x240003) else (spec_l8Kind.j1 k x5 true 1 x240000 (x240000 == 6) x239000 x239001 x240000 x240001 x240002 x240003))
def spec_l8Kind.j1 : Nat → List Int → Bool → Int → Int → Bool → List (S91) → List (S91) → Int → Int → ByteArray → List (S29) → Option (Int)
 | 0, _, _, _, _, _, _, _, _, _, _, _ => none
 | k + 1, x5, x7, x8, x33, x34, x239000, x239001, x240000, x240001, x240002, x240003 => if x34 = true then (if x7 = true then (some 2) else (some 0)) else (if x33 = 3 then (spec_l8Kind.j2 k x5 x7 x8 x33 (x33 == 3) x239000 x239001 x240000 x240001 x240002 x240003) else (if x33 = 4 then (spec_l8Kind.j2 k x5 x7 x8 x33 (x33 == 4) x239000 x239001 x240000 x240001 x240002 x240003) else (spec_l8Kind.j2 k x5 x7 x8 x33 (x33 == 5) x239000 x239001 x240000 x240001 x240002 x240003)))
def spec_l8Kind.j2 : Nat → List Int → Bool → Int → Int → Bool → List (S91) → List (S91) → Int → Int → ByteArray → List (S29) → Option (Int)
 | 0, _, _, _, _, _, _, _, _, _, _, _ => none
 | k + 1, x5, x7, x8, x33, x37, x239000, x239001, x240000, x240001, x240002, x240003 => if x37 = true then (if x7 = true then (some 3) else (some 0)) else (if x33 = 7 then ((spec_l7Kind.f k x239001 x240002).bind fun t249 => (if x7 = true then (some t249) else (some 0))) else (if x33 = 8 then ((spec_l7Kind.f k x239000 x240002).bind fun t250 => (if 0 < (x5.length : Int) then (if ((rd x5 0) = 3) then (some t250) else (some 0)) else (none))) else (if x33 = 9 then (if 0 < (x5.length : Int) then (if ((rd x5 0) = 3) then (some x8) else (some 0)) else (none)) else (if x33 = 10 then (if 0 < (x5.length : Int) then (if 1 < (x5.length : Int) then (if ((rd x5 0) = (rd x5 1)) then (some x8) else (some 0)) else (none)) else (none)) else (if x33 = 11 then (if 0 < (x5.length : Int) then (if (rd x5 0) = 2 then (if 1 < (x5.length : Int) then (if ((rd x5 1) = 2) then (some x8) else (some 0)) else (none)) else (some 0)) else (none)) else (if x33 = 12 then (if 0 < (x5.length : Int) then (if (rd x5 0) = 3 then (if 1 < (x5.length : Int) then (if ((rd x5 1) = 3) then (some x8) else (some 0)) else (none)) else (some 0)) else (none)) else (if x33 = 13 then (if 0 < (x5.length : Int) then (if ((rd x5 0) = 1) then (some x8) else (some 0)) else (none)) else (if x33 = 14 then (spec_l8Kind.j3 k x5 x7 x8 (x33 == 14)) else (spec_l8Kind.j3 k x5 x7 x8 (x33 == 15))))))))))
def spec_l8Kind.j3 : Nat → List Int → Bool → Int → Bool → Option (Int)
 | 0, _, _, _, _ => none
 | k + 1, x5, x7, x8, x104 => if x104 = true then (if 0 < (x5.length : Int) then (if (rd x5 0) = 1 then (if 1 < (x5.length : Int) then (if ((rd x5 1) = 1) then (some x8) else (some 0)) else (none)) else (some 0)) else (none)) else (if x7 = true then (some x8) else (some 0))
def spec_l8Kind.f : Nat → List (S91) → List (S91) → Int → Int → ByteArray → List (S29) → Option (Int)
 | 0, _, _, _, _, _, _ => none
 | k + 1, l0_0, l0_1, a1_0, a1_1, a1_2, l1_3 => spec_l8Kind.l0 k (([] : List Int)) 0 l0_0 l0_1 a1_0 a1_1 a1_2 l1_3
end
theorem spec_l8Kind.mono_l : ∀ k, (∀ y0 y1 y2 y3 y4 y5, LeO (spec_l8Kind.f k y0 y1 y2 y3 y4 y5) (spec_l8Kind.f (k + 1) y0 y1 y2 y3 y4 y5)) ∧ (∀ y0 y1 y2 y3 y4 y5 y6 y7, LeO (spec_l8Kind.l0 k y0 y1 y2 y3 y4 y5 y6 y7) (spec_l8Kind.l0 (k + 1) y0 y1 y2 y3 y4 y5 y6 y7)) ∧ (∀ y0 y1 y2 y3 y4 y5 y6 y7 y8 y9 y10, LeO (spec_l8Kind.j1 k y0 y1 y2 y3 y4 y5 y6 y7 y8 y9 y10) (spec_l8Kind.j1 (k + 1) y0 y1 y2 y3 y4 y5 y6 y7 y8 y9 y10)) ∧ (∀ y0 y1 y2 y3 y4 y5 y6 y7 y8 y9 y10, LeO (spec_l8Kind.j2 k y0 y1 y2 y3 y4 y5 y6 y7 y8 y9 y10) (spec_l8Kind.j2 (k + 1) y0 y1 y2 y3 y4 y5 y6 y7 y8 y9 y10)) ∧ (∀ y0 y1 y2 y3, LeO (spec_l8Kind.j3 k y0 y1 y2 y3) (spec_l8Kind.j3 (k + 1) y0 y1 y2 y3))
 | 0 => ⟨fun _ _ _ _ _ _ r h => by simp [spec_l8Kind.f] at h, fun _ _ _ _ _ _ _ _ r h => by simp [spec_l8Kind.l0] at h, fun _ _ _ _ _ _ _ _ _ _ _ r h => by simp [spec_l8Kind.j1] at h, fun _ _ _ _ _ _ _ _ _ _ _ r h => by simp [spec_l8Kind.j2] at h, fun _ _ _ _ r h => by simp [spec_l8Kind.j3] at h⟩
 | k + 1 => by
  obtain ⟨ih0, ih1, ih2, ih3, ih4⟩ := spec_l8Kind.mono_l k
  refine ⟨?_, ?_, ?_, ?_, ?_⟩
  ·
   intro y0 y1 y2 y3 y4 y5
   unfold spec_l8Kind.f
   repeat' first
   | (with_reducible exact ih0 _ _ _ _ _ _)
   | (with_reducible exact ih1 _ _ _ _ _ _ _ _)
   | (with_reducible exact ih2 _ _ _ _ _ _ _ _ _ _ _)
   | (with_reducible exact ih3 _ _ _ _ _ _ _ _ _ _ _)
   | (with_reducible exact ih4 _ _ _ _)
   | (with_reducible exact spec_l7Kind.mono _ _ _)
   | (with_reducible exact LeO.refl _)
   | (with_reducible exact LeO.none _)
   | (with_reducible refine LeO.ite ?_ ?_)
   | (with_reducible refine LeO.bind ?_ (fun _ => ?_))
   | exact ih0 _ _ _ _ _ _
   | exact ih1 _ _ _ _ _ _ _ _
   | exact ih2 _ _ _ _ _ _ _ _ _ _ _
   | exact ih3 _ _ _ _ _ _ _ _ _ _ _
   | exact ih4 _ _ _ _
   | exact spec_l7Kind.mono _ _ _
   | exact LeO.none _
   | refine LeO.ite ?_ ?_
   | refine LeO.bind ?_ (fun _ => ?_)
  ·
   intro y0 y1 y2 y3 y4 y5 y6 y7
   unfold spec_l8Kind.l0
   repeat' first
   | (with_reducible exact ih0 _ _ _ _ _ _)
   | (with_reducible exact ih1 _ _ _ _ _ _ _ _)
   | (with_reducible exact ih2 _ _ _ _ _ _ _ _ _ _ _)
   | (with_reducible exact ih3 _ _ _ _ _ _ _ _ _ _ _)
   | (with_reducible exact ih4 _ _ _ _)
   | (with_reducible exact spec_l7Kind.mono _ _ _)
   | (with_reducible exact LeO.refl _)
   | (with_reducible exact LeO.none _)
   | (with_reducible refine LeO.ite ?_ ?_)
   | (with_reducible refine LeO.bind ?_ (fun _ => ?_))
   | exact ih0 _ _ _ _ _ _
   | exact ih1 _ _ _ _ _ _ _ _
   | exact ih2 _ _ _ _ _ _ _ _ _ _ _
   | exact ih3 _ _ _ _ _ _ _ _ _ _ _
   | exact ih4 _ _ _ _
   | exact spec_l7Kind.mono _ _ _
   | exact LeO.none _
   | refine LeO.ite ?_ ?_
   | refine LeO.bind ?_ (fun _ => ?_)
  ·
   intro y0 y1 y2 y3 y4 y5 y6 y7 y8 y9 y10
   unfold spec_l8Kind.j1
   repeat' first
   | (with_reducible exact ih0 _ _ _ _ _ _)
   | (with_reducible exact ih1 _ _ _ _ _ _ _ _)
   | (with_reducible exact ih2 _ _ _ _ _ _ _ _ _ _ _)
   | (with_reducible exact ih3 _ _ _ _ _ _ _ _ _ _ _)
   | (with_reducible exact ih4 _ _ _ _)
   | (with_reducible exact spec_l7Kind.mono _ _ _)
   | (with_reducible exact LeO.refl _)
   | (with_reducible exact LeO.none _)
   | (with_reducible refine LeO.ite ?_ ?_)
   | (with_reducible refine LeO.bind ?_ (fun _ => ?_))
   | exact ih0 _ _ _ _ _ _
   | exact ih1 _ _ _ _ _ _ _ _
   | exact ih2 _ _ _ _ _ _ _ _ _ _ _
   | exact ih3 _ _ _ _ _ _ _ _ _ _ _
   | exact ih4 _ _ _ _
   | exact spec_l7Kind.mono _ _ _
   | exact LeO.none _
   | refine LeO.ite ?_ ?_
   | refine LeO.bind ?_ (fun _ => ?_)
  ·
   intro y0 y1 y2 y3 y4 y5 y6 y7 y8 y9 y10
   unfold spec_l8Kind.j2
   repeat' first
   | (with_reducible exact ih0 _ _ _ _ _ _)
   | (with_reducible exact ih1 _ _ _ _ _ _ _ _)
   | (with_reducible exact ih2 _ _ _ _ _ _ _ _ _ _ _)
   | (with_reducible exact ih3 _ _ _ _ _ _ _ _ _ _ _)
   | (with_reducible exact ih4 _ _ _ _)
   | (with_reducible exact spec_l7Kind.mono _ _ _)
   | (with_reducible exact LeO.refl _)
   | (with_reducible exact LeO.none _)
   | (with_reducible refine LeO.ite ?_ ?_)
   | (with_reducible refine LeO.bind ?_ (fun _ => ?_))
   | exact ih0 _ _ _ _ _ _
   | exact ih1 _ _ _ _ _ _ _ _
   | exact ih2 _ _ _ _ _ _ _ _ _ _ _
   | exact ih3 _ _ _ _ _ _ _ _ _ _ _
   | exact ih4 _ _ _ _
   | exact spec_l7Kind.mono _ _ _
   | exact LeO.none _
   | refine LeO.ite ?_ ?_
   | refine LeO.bind ?_ (fun _ => ?_)
  ·
   intro y0 y1 y2 y3
   unfold spec_l8Kind.j3
   repeat' first
   | (with_reducible exact ih0 _ _ _ _ _ _)
   | (with_reducible exact ih1 _ _ _ _ _ _ _ _)
   | (with_reducible exact ih2 _ _ _ _ _ _ _ _ _ _ _)
   | (with_reducible exact ih3 _ _ _ _ _ _ _ _ _ _ _)
   | (with_reducible exact ih4 _ _ _ _)
   | (with_reducible exact spec_l7Kind.mono _ _ _)
   | (with_reducible exact LeO.refl _)
   | (with_reducible exact LeO.none _)
   | (with_reducible refine LeO.ite ?_ ?_)
   | (with_reducible refine LeO.bind ?_ (fun _ => ?_))
   | exact ih0 _ _ _ _ _ _
   | exact ih1 _ _ _ _ _ _ _ _
   | exact ih2 _ _ _ _ _ _ _ _ _ _ _
   | exact ih3 _ _ _ _ _ _ _ _ _ _ _
   | exact ih4 _ _ _ _
   | exact spec_l7Kind.mono _ _ _
   | exact LeO.none _
   | refine LeO.ite ?_ ?_
   | refine LeO.bind ?_ (fun _ => ?_)
theorem spec_l8Kind.mono : ∀ a0 a1 a2 a3 a4 a5 k, LeO (spec_l8Kind.f k a0 a1 a2 a3 a4 a5) (spec_l8Kind.f (k + 1) a0 a1 a2 a3 a4 a5) := by
 intro a0 a1 a2 a3 a4 a5 k
 obtain ⟨ih0, ih1, ih2, ih3, ih4⟩ := spec_l8Kind.mono_l k
 exact ih0 a0 a1 a2 a3 a4 a5
def spec_l8Kind.T5 : Bool × List (List Nat × List Nat) := (true, [([], []), ([], []), ([], []), ([2], [2]), ([], []), ([3, 4], [3, 4]), ([5], [5]), ([1, 6], [1, 6]), ([7], [7]), ([0, 8, 7], [0, 8]), ([9, 9, 0, 1, 2, 3, 4, 5, 6, 7, 8, 9], [0, 9])])
def spec_l8Kind.B5 : List Nat := [0, 0, 0, 4, 0, 28, 60, 126, 254, 511, 1023]
theorem spec_l8Kind.tab5 : rtab .any (opsOf Try.f38 5) = spec_l8Kind.T5 := by kernel_rfl
theorem spec_l8Kind.bits5 : waitsOk spec_l8Kind.T5.2 spec_l8Kind.B5 = true := by kernel_rfl
def spec_l8Kind.T26 : Bool × List (List Nat × List Nat) := (true, [([], []), ([0], [0]), ([1], [1]), ([], []), ([3], [3]), ([4], [4]), ([2, 5], [2, 5]), ([6, 0, 1, 2, 3, 4, 5, 6], [6])])
def spec_l8Kind.B26 : List Nat := [0, 1, 3, 0, 8, 24, 63, 127]
theorem spec_l8Kind.tab26 : rtab .any (opsOf Try.f38 26) = spec_l8Kind.T26 := by kernel_rfl
theorem spec_l8Kind.bits26 : waitsOk spec_l8Kind.T26.2 spec_l8Kind.B26 = true := by kernel_rfl
set_option maxHeartbeats 8000000 in
set_option maxRecDepth 100000 in
theorem spec_l8Kind.calls (k : Nat) : ∀ (A0_0 : Option Addr) (c0_0 : Nat) (l0_0 : List (S91)) (A0_1 : Option Addr) (c0_1 : Nat) (l0_1 : List (S91)) (a1_0 : Int) (a1_1 : Int) (a1_2 : ByteArray) (A1_3 : Option Addr) (c1_3 : Nat) (l1_3 : List (S29)) (r : Int) (w : World) (hr0_0 : Kd.C k91 w A0_0 l0_0.length l0_0) (hc0_0 : l0_0.length ≤ c0_0) (hr0_1 : Kd.C k91 w A0_1 l0_1.length l0_1) (hc0_1 : l0_1.length ≤ c0_1) (hr1_3 : Kd.C k29 w A1_3 l1_3.length l1_3) (hc1_3 : l1_3.length ≤ c1_3) (h : spec_l8Kind.f k l0_0 l0_1 a1_0 a1_1 a1_2 l1_3 = some r),
  Calls Try.prog 38 #[.agg #[.slice A0_0 l0_0.length c0_0, .slice A0_1 l0_1.length c0_1], .agg #[.int .i64 a1_0, .int .i64 a1_1, .string a1_2, .slice A1_3 l1_3.length c1_3]] w fun e w' => e = .returned (.int .i64 r) ∧ Below w.heap.size w w' := by
 induction k using Nat.strongRecOn with
 | _ k ih =>
 intro A0_0 c0_0 l0_0 A0_1 c0_1 l0_1 a1_0 a1_1 a1_2 A1_3 c1_3 l1_3 r w hr0_0 hc0_0 hr0_1 hc0_1 hr1_3 hc1_3 h
 cases k with
 | zero => exact absurd h (by simp [spec_l8Kind.f])
 | succ k =>
 simp only [spec_l8Kind.f] at h
 have hu40 := Try.underlying40
 have hu29 := Try.underlying29
 have HR0_0 := Aside0.mk hr0_0
 have HC0_0 := Aside0.mk hc0_0
 clear hr0_0 hc0_0
 have HR0_1 := Aside0.mk hr0_1
 have HC0_1 := Aside0.mk hc0_1
 clear hr0_1 hc0_1
 have HR1_3 := Aside0.mk hr1_3
 have HC1_3 := Aside0.mk hc1_3
 clear hr1_3 hc1_3
 have HB := Aside0.mk (Below.refl w.heap.size w)
 have H : (spec_l8Kind.l0 k (([] : List Int)) 0 l0_0 l0_1 a1_0 a1_1 a1_2 l1_3) = some r := h
 clear h
 obtain ⟨y240, hy240⟩ : ∃ y_ : List Int, y_ = (([] : List Int)) := ⟨_, rfl⟩
 replace H : (spec_l8Kind.l0 k y240 0 l0_0 l0_1 a1_0 a1_1 a1_2 l1_3) = some r := by first | (rw [hy240]; with_reducible exact H) | (have H2_ := (Option.bind_some _ _).symm.trans H; rw [hy240]; with_reducible exact H2_) | (have H2_ := (Option.bind_some _ _).symm.trans H; with_reducible exact H2_) | with_reducible exact H | (rw [hy240]; exact H) | exact H
 have Ny240 := Aside0.mk hy240
 clear hy240
 have H' := Aside0.mk H
 clear H
 go_enter Try.func38, Try.ntmps38
 go_wp2_with (first | ((with_reducible refine gate_dst (N := 2) rfl ?_); refine bx 2 #[.slice A0_0 l0_0.length c0_0, .slice A0_1 l0_1.length c0_1] 40 ?_; intro gb238 hg w3 hbox hb; have BK238 := Aside0.mk (hbox); have GW238 := gwB HB hg; have GE238 := gwB HB hg; replace HB := bS HB hb; clear hb hbox hg) | ((with_reducible refine gate_dst (N := 3) rfl ?_); refine bx 3 #[.int .i64 a1_0, .int .i64 a1_1, .string a1_2, .slice A1_3 l1_3.length c1_3] 29 ?_; intro gb239 hg w4 hbox hb; have BK239 := Aside0.mk (hbox); have GW239 := gwB HB hg; have GE239 := gwB HB hg; replace HB := bS HB hb; have NB238_239 := nbL BK238 hg; have NB239_238 := nbR BK238 hg; replace BK238 := bB BK238 hb; clear hb hbox hg) | ((with_reducible refine gate_dst (N := 9) rfl ?_); refine Kd.R_lit (Kd.int .i64) _ 3 ?hg (N := 9) ?hd (xs := ([] : List Int)) (inner := []) (ok := fun _ => True) (okp := fun _ => True) ?hr ?hp (fun _ hk => hk) trivial (Below.refl _ _) (Nat.le_refl _) (by simp) ?_; (case hd => rfl); (case hg => rfl); (case hr => first | (go_simp; done) | (go_simp; rfl)); (case hp => exact (Reps.none _ _)); intro v241 w5 ho6 hb hg_ hnew_; clear hg_ hnew_; (first | rw [← Ny240.out] at ho6 | (simp only [Int.reduceToNat] at ho6; rw [← Ny240.out] at ho6)); have HO242 := Aside0.mk (Kd.R_lower ho6 (below_size (by exact bw HB.out))); replace BK238 := bB BK238 hb; replace BK239 := bB BK239 hb; replace HB := bS HB hb; clear hb ho6))
 go_loopg [5, 6] k (fun kq v5 v6 w' => ∃ (x5_1 : List Int) (x6_1 : Int), v6 = .int .i64 x6_1 ∧ Aside0 (spec_l8Kind.l0 kq x5_1 x6_1 l0_0 l0_1 a1_0 a1_1 a1_2 l1_3 = some r) ∧ Aside0 (kq ≤ k) ∧ Aside0 (Kd.R (Kd.int .i64) 3 w' w.heap.size (fun _ => True) v5 x5_1) ∧ Aside0 (w'.heap[gb238]? = some (.cells #[(.slice A0_0 l0_0.length c0_0), (.slice A0_1 l0_1.length c0_1)] 40 (0, 0))) ∧ Aside0 (w'.heap[gb239]? = some (.cells #[.int .i64 a1_0, .int .i64 a1_1, .string a1_2, (.slice A1_3 l1_3.length c1_3)] 29 (0, 0))) ∧ Aside0 (Below w.heap.size w w'))
 case atStart => exact ⟨(y240), (0), (by first | rfl | (simp; done) | (simp [*]; done)), H', ⟨Nat.le_refl _⟩, ⟨by exact Kd.xR HO242.out⟩, ⟨by exact bk BK238.out⟩, ⟨by exact bk BK239.out⟩, ⟨by exact bw HB.out⟩⟩
 case round =>
  clear H'
  try clear c1
  try clear p2
  try clear c3
  obtain ⟨x5_1, x6_1, rfl, HA, HK1, HO_5, BK238, BK239, HB⟩ := hrel
  cases gk with
  | zero => exact absurd HA.out (by simp [spec_l8Kind.l0])
  | succ k1 =>
   have H := HA.out
   clear HA
   simp only [spec_l8Kind.l0] at H
   by_cases c7 : x6_1 < (l1_3.length : Int)
   ·
    rw [if_pos c7] at H; have c7b0 : decide (x6_1 < (l1_3.length : Int)) = true := decide_eq_true c7; clear c7
    by_cases c8 : 0 ≤ x6_1
    ·
     rw [if_pos c8] at H; have c8b0 : decide (0 ≤ x6_1) = true := decide_eq_true c8; clear c8
     replace H := Option.bind_eq_some_iff.mp H
     obtain ⟨t244, A90, H⟩ := H
     replace H : (if x5_1.length < 17592186044416 then ((some (x5_1 ++ [t244] : List Int)).bind fun y245 => (if x6_1 < (y245.length : Int) then (if (rd y245 x6_1) = 0 then (some 0) else (spec_l8Kind.l0 k1 y245 (wrap64 (x6_1 + 1)) l0_0 l0_1 a1_0 a1_1 a1_2 l1_3)) else (none))) else (none)) = some r := H
     have A9 := Aside0.mk A90
     clear A90
     by_cases c10 : x5_1.length < 17592186044416
     ·
      rw [if_pos c10] at H; have LMc10 := Aside0.mk c10; clear c10
      obtain ⟨y245, hy245⟩ : ∃ y_ : List Int, y_ = (x5_1 ++ [t244]) := ⟨_, rfl⟩
      replace H : (if x6_1 < (y245.length : Int) then (if (rd y245 x6_1) = 0 then (some 0) else (spec_l8Kind.l0 k1 y245 (wrap64 (x6_1 + 1)) l0_0 l0_1 a1_0 a1_1 a1_2 l1_3)) else (none)) = some r := by first | (rw [hy245]; with_reducible exact H) | (have H2_ := (Option.bind_some _ _).symm.trans H; rw [hy245]; with_reducible exact H2_) | (have H2_ := (Option.bind_some _ _).symm.trans H; with_reducible exact H2_) | with_reducible exact H | (rw [hy245]; exact H) | exact H
      have Ny245 := Aside0.mk hy245
      clear hy245
      by_cases c11 : x6_1 < (y245.length : Int)
      ·
       rw [if_pos c11] at H; have c11b0 : decide (x6_1 < (y245.length : Int)) = true := decide_eq_true c11; clear c11
       by_cases c12 : (rd y245 x6_1) = 0
       ·
        rw [if_pos c12] at H; obtain ⟨c12b0, c12b1⟩ := eqY c12; clear c12
        obtain rfl := Option.some.inj H
        have hnb13 := NB239_238.out
        have hnc13 := NB238_239.out
        have hcz14_0 : wr.cell? ⟨gb239, 0, none⟩ = some (.int .i64 a1_0) := (blk_cell BK239.out 0).trans rfl
        have hcz14_1 : wr.cell? ⟨gb239, 1, none⟩ = some (.int .i64 a1_1) := (blk_cell BK239.out 1).trans rfl
        have hcz14_2 : wr.cell? ⟨gb239, 2, none⟩ = some (.string a1_2) := (blk_cell BK239.out 2).trans rfl
        have hcz14_3 : wr.cell? ⟨gb239, 3, none⟩ = some (.slice A1_3 l1_3.length c1_3) := (blk_cell BK239.out 3).trans rfl
        have hfz14_0 := blk_frozen BK239.out 0
        have hfz14_1 := blk_frozen BK239.out 1
        have hfz14_2 := blk_frozen BK239.out 2
        have hfz14_3 := blk_frozen BK239.out 3
        try go_wp2
        replace HO_5 := Aside0.mk (Kd.R_drew HO_5.out)
        replace BK238 := Aside0.mk (blk_drew BK238.out)
        replace BK239 := Aside0.mk (blk_drew BK239.out)
        replace HB := Aside0.mk (below_drew1 HB.out)
        have p243 : 0 ≤ (x6_1 : Int) := of_decide_eq_true (by first | (with_reducible assumption) | assumption)
        have q243 : x6_1 < (l1_3.length : Int) := of_decide_eq_true (by first | (with_reducible assumption) | assumption)
        obtain ⟨ad243, A243_3, c243_3, e243, hx243_0, hx243_1, hx243_2, hx243_3, hl243_3, hi243_3⟩ := at_T29 HR1_3.out x6_1 p243 q243
        have hw243_3 := hx243_3
        have hw243_2 := hx243_2
        have hw243_1 := hx243_1
        have hw243_0 := hx243_0
        cases e243
        first | replace hx243_0 := (HB.out.cell (World.block_lt_of_cell? w _ hx243_0)).trans hx243_0 | skip
        first | replace hx243_1 := (HB.out.cell (World.block_lt_of_cell? w _ hx243_1)).trans hx243_1 | skip
        first | replace hx243_2 := (HB.out.cell (World.block_lt_of_cell? w _ hx243_2)).trans hx243_2 | skip
        first | replace hx243_3 := (HB.out.cell (World.block_lt_of_cell? w _ hx243_3)).trans hx243_3 | skip
        have HR243_3 := Aside0.mk hi243_3
        have HC243_3 := Aside0.mk hl243_3
        clear hi243_3 hl243_3
        replace p243 := eq_true p243
        replace q243 := eq_true q243
        refine start_ (n := 11) (S := fun w' => w'.cell? ⟨gb238, 0, none⟩ = some (.slice A0_0 l0_0.length c0_0) ∧ w'.cell? ⟨gb238, 1, none⟩ = some (.slice A0_1 l0_1.length c0_1) ∧ w'.cell? ⟨gb239, 0, none⟩ = some (.int .i64 a1_0) ∧ w'.cell? ⟨gb239, 1, none⟩ = some (.int .i64 a1_1) ∧ w'.cell? ⟨gb239, 2, none⟩ = some (.string a1_2) ∧ w'.cell? ⟨gb239, 3, none⟩ = some (.slice (some ad243) l1_3.length c1_3) ∧ w'.cell? (ad243.add ((x6_1).toNat * 4)) = some (.int .i64 ((rd_T29 l1_3 x6_1).f0)) ∧ w'.cell? ⟨(ad243.add ((x6_1).toNat * 4)).block, (ad243.add ((x6_1).toNat * 4)).off + 1, none⟩ = some (.int .i64 ((rd_T29 l1_3 x6_1).f1)) ∧ w'.cell? ⟨(ad243.add ((x6_1).toNat * 4)).block, (ad243.add ((x6_1).toNat * 4)).off + 2, none⟩ = some (.string ((rd_T29 l1_3 x6_1).f2)) ∧ w'.cell? ⟨(ad243.add ((x6_1).toNat * 4)).block, (ad243.add ((x6_1).toNat * 4)).off + 3, none⟩ = some (.slice A243_3 ((rd_T29 l1_3 x6_1).f3).length c243_3)) (ds := []) (mB 11 0) (by kernel_rfl) rfl rfl ⟨(blk_cell BK238.out 0).trans rfl, (blk_cell BK238.out 1).trans rfl, (blk_cell BK239.out 0).trans rfl, (blk_cell BK239.out 1).trans rfl, (blk_cell BK239.out 2).trans rfl, (blk_cell BK239.out 3).trans rfl, ((HB.out.cell (World.block_lt_of_cell? w _ hw243_0)).trans hw243_0), ((HB.out.cell (World.block_lt_of_cell? w _ hw243_1)).trans hw243_1), ((HB.out.cell (World.block_lt_of_cell? w _ hw243_2)).trans hw243_2), ((HB.out.cell (World.block_lt_of_cell? w _ hw243_3)).trans hw243_3)⟩ (fun hHeld => ?_); refine with_tabW spec_l8Kind.tab5 spec_l8Kind.bits5 (fun HT_ HW_ => ?_)
        generalize wr.drew = w15 at HO_5 BK238 BK239 HB HR243_3 hx243_0 hx243_1 hx243_2 hx243_3 hHeld ⊢
        refine pn 0 17 HT_.out ?_
        refine pn 2 19 HT_.out ?_
        refine pn 4 21 HT_.out ?_
        refine tk 1 18 HT_.out HW_.out hHeld ?_
        refine tk 3 20 HT_.out HW_.out hHeld ?_
        refine pn 5 22 HT_.out ?_
        refine tk 6 23 HT_.out HW_.out hHeld ?_
        refine on 7 24 HT_.out (fun K hK => ?_)
        refine gs Try.func38 #[.agg #[.slice A0_0 l0_0.length c0_0, .slice A0_1 l0_1.length c0_1], .agg #[.int .i64 ((rd_T29 l1_3 x6_1).f0), .int .i64 ((rd_T29 l1_3 x6_1).f1), .string ((rd_T29 l1_3 x6_1).f2), .slice A243_3 ((rd_T29 l1_3 x6_1).f3).length c243_3]] ?_
        with_reducible refine (ih k1 (by have := HK1.out; omega) _ _ l0_0 _ _ l0_1 ((rd_T29 l1_3 x6_1).f0) ((rd_T29 l1_3 x6_1).f1) ((rd_T29 l1_3 x6_1).f2) _ _ ((rd_T29 l1_3 x6_1).f3) t244 _ ?side1 ?side2 ?side3 ?side4 ?side5 ?side6 A9.out).mono ?_
        (case side1 => repeat (first | exact (Kd.C_below HR0_0.out HB.out) | (with_reducible refine Kd.C_alloc ?_ _) | (with_reducible refine Kd.C_drewN ?_ _) | (with_reducible refine Kd.C_drew ?_)))
        (case side2 => exact HC0_0.out)
        (case side3 => repeat (first | exact (Kd.C_below HR0_1.out HB.out) | (with_reducible refine Kd.C_alloc ?_ _) | (with_reducible refine Kd.C_drewN ?_ _) | (with_reducible refine Kd.C_drew ?_)))
        (case side4 => exact HC0_1.out)
        (case side5 => repeat (first | exact (Kd.C_below HR243_3.out HB.out) | (with_reducible refine Kd.C_alloc ?_ _) | (with_reducible refine Kd.C_drewN ?_ _) | (with_reducible refine Kd.C_drew ?_)))
        (case side6 => exact HC243_3.out)
        rintro e w16 ⟨rfl, hb⟩
        refine ⟨_, rfl, ?_⟩
        replace HO_5 := Aside0.mk (Kd.R_below (by exact Kd.xR HO_5.out) hb)
        replace BK238 := bB BK238 hb
        replace BK239 := bB BK239 hb
        replace HB := bS HB hb
        (try clear hb)
        (try clear hb2)
        (try clear hk)
        (try clear hi)
        refine hK.out _ _ ⟨(blk_cell BK238.out 0).trans rfl, (blk_cell BK238.out 1).trans rfl, (blk_cell BK239.out 0).trans rfl, (blk_cell BK239.out 1).trans rfl, (blk_cell BK239.out 2).trans rfl, (blk_cell BK239.out 3).trans rfl, ((HB.out.cell (World.block_lt_of_cell? w _ hw243_0)).trans hw243_0), ((HB.out.cell (World.block_lt_of_cell? w _ hw243_1)).trans hw243_1), ((HB.out.cell (World.block_lt_of_cell? w _ hw243_2)).trans hw243_2), ((HB.out.cell (World.block_lt_of_cell? w _ hw243_3)).trans hw243_3)⟩ (fun hHeld => ?_)
        clear hK K
        refine nm (some 24) ?_
        refine on 8 25 HT_.out (fun K hK => ?_)
        refine value_ (w1 := ?_) (v := ?_) (by rfl) rfl ?_ ?_
        rotate_left 2
        ·
         go_simp
         constructor
         ·
          rfl
         ·
          rfl
        refine hK.out _ _ ⟨(blk_cell (blk_alloc BK238.out _) 0).trans rfl, (blk_cell (blk_alloc BK238.out _) 1).trans rfl, (blk_cell (blk_alloc BK239.out _) 0).trans rfl, (blk_cell (blk_alloc BK239.out _) 1).trans rfl, (blk_cell (blk_alloc BK239.out _) 2).trans rfl, (blk_cell (blk_alloc BK239.out _) 3).trans rfl, (World.cell?_alloc_lt _ _ _ (World.block_lt_of_cell? _ _ (((HB.out.cell (World.block_lt_of_cell? w _ hw243_0)).trans hw243_0)))).trans (((HB.out.cell (World.block_lt_of_cell? w _ hw243_0)).trans hw243_0)), (World.cell?_alloc_lt _ _ _ (World.block_lt_of_cell? _ _ (((HB.out.cell (World.block_lt_of_cell? w _ hw243_1)).trans hw243_1)))).trans (((HB.out.cell (World.block_lt_of_cell? w _ hw243_1)).trans hw243_1)), (World.cell?_alloc_lt _ _ _ (World.block_lt_of_cell? _ _ (((HB.out.cell (World.block_lt_of_cell? w _ hw243_2)).trans hw243_2)))).trans (((HB.out.cell (World.block_lt_of_cell? w _ hw243_2)).trans hw243_2)), (World.cell?_alloc_lt _ _ _ (World.block_lt_of_cell? _ _ (((HB.out.cell (World.block_lt_of_cell? w _ hw243_3)).trans hw243_3)))).trans (((HB.out.cell (World.block_lt_of_cell? w _ hw243_3)).trans hw243_3))⟩ (fun hHeld => ?_)
        clear hK K
        refine nm (some 25) ?_
        refine on 9 26 HT_.out (fun K hK => ?_)
        refine Kd.R_append_step (Kd.int .i64) (w0 := w) w.heap.size (by rfl) (.tmp 17) (.tmp 25) 89 3 (.int .i64 0) 8 rfl Try.underlying89 info3 rfl (by decide) (by omega) u5 x5_1 t244 [.int .i64 t244] (fun _ => True) (fun _ => False) rfl rfl ?aP (fun _ hk => hk.elim) ?aF ?aO ?aB ?aS ?aL ?_
        (case aP => exact rfl)
        (case aB => exact (by exact bw HB.out))
        (case aF => exact (fun _ _ => trivial))
        (case aO => exact (by exact Kd.xR HO_5.out))
        (case aS => exact (below_size (by exact bw HB.out)))
        (case aL => have := LMc10.out; omega)
        intro v246 w17 ho hb hg hat
        rw [← Ny245.out] at ho
        replace BK238 := Aside0.mk (blk_grown (g := gb238) (o := .cells #[.slice A0_0 l0_0.length c0_0, .slice A0_1 l0_1.length c0_1] 40 (0, 0)) (by exact bk BK238.out) hg (Kd.R_ne HO_5.out BK238.out (by decide)))
        replace BK239 := Aside0.mk (blk_grown (g := gb239) (o := .cells #[.int .i64 a1_0, .int .i64 a1_1, .string a1_2, .slice (some ad243) l1_3.length c1_3] 29 (0, 0)) (by exact bk BK239.out) hg (Kd.R_ne HO_5.out BK239.out (by decide)))
        replace HB := Aside0.mk (hb)
        have HO247 := Aside0.mk (ho)
        clear HO_5
        clear ho hb hg hat
        refine hK.out _ _ ⟨(blk_cell BK238.out 0).trans rfl, (blk_cell BK238.out 1).trans rfl, (blk_cell BK239.out 0).trans rfl, (blk_cell BK239.out 1).trans rfl, (blk_cell BK239.out 2).trans rfl, (blk_cell BK239.out 3).trans rfl, ((HB.out.cell (World.block_lt_of_cell? w _ hw243_0)).trans hw243_0), ((HB.out.cell (World.block_lt_of_cell? w _ hw243_1)).trans hw243_1), ((HB.out.cell (World.block_lt_of_cell? w _ hw243_2)).trans hw243_2), ((HB.out.cell (World.block_lt_of_cell? w _ hw243_3)).trans hw243_3)⟩ (fun hHeld => ?_)
        clear hK K
        refine nm (some 26) ?_
        refine pn 10 5 HT_.out ?_
        refine done_ (done_of HT_.out (by kernel_rfl)) ?_
        obtain ⟨Ao18, co18, eo18⟩ := Kd.R_slice HO247.out
        subst eo18
        have p248 : 0 ≤ (x6_1 : Int) := of_decide_eq_true (by first | (with_reducible assumption) | assumption)
        have q248 : x6_1 < (y245.length : Int) := of_decide_eq_true (by first | (with_reducible assumption) | assumption)
        obtain ⟨ad248, e248, hx248_0⟩ := Kd.at_int (Kd.R_reads' HO247.out).2.2 x6_1 p248 q248
        cases e248
        replace p248 := eq_true p248
        replace q248 := eq_true q248
        try go_wp2
        go_ret
        exact ⟨by first | rfl | (simp [errW_none, errW_some] <;> rfl) | (simp [*, errW_none, errW_some] <;> rfl), by exact bw HB.out⟩
       ·
        rw [if_neg c12] at H; obtain ⟨c12b0, c12b1⟩ := eqN c12
        have H' := Aside0.mk H
        clear H
        have hnb19 := NB239_238.out
        have hnc19 := NB238_239.out
        have hcz20_0 : wr.cell? ⟨gb239, 0, none⟩ = some (.int .i64 a1_0) := (blk_cell BK239.out 0).trans rfl
        have hcz20_1 : wr.cell? ⟨gb239, 1, none⟩ = some (.int .i64 a1_1) := (blk_cell BK239.out 1).trans rfl
        have hcz20_2 : wr.cell? ⟨gb239, 2, none⟩ = some (.string a1_2) := (blk_cell BK239.out 2).trans rfl
        have hcz20_3 : wr.cell? ⟨gb239, 3, none⟩ = some (.slice A1_3 l1_3.length c1_3) := (blk_cell BK239.out 3).trans rfl
        have hfz20_0 := blk_frozen BK239.out 0
        have hfz20_1 := blk_frozen BK239.out 1
        have hfz20_2 := blk_frozen BK239.out 2
        have hfz20_3 := blk_frozen BK239.out 3
        try go_wp2
        replace HO_5 := Aside0.mk (Kd.R_drew HO_5.out)
        replace BK238 := Aside0.mk (blk_drew BK238.out)
        replace BK239 := Aside0.mk (blk_drew BK239.out)
        replace HB := Aside0.mk (below_drew1 HB.out)
        have p243 : 0 ≤ (x6_1 : Int) := of_decide_eq_true (by first | (with_reducible assumption) | assumption)
        have q243 : x6_1 < (l1_3.length : Int) := of_decide_eq_true (by first | (with_reducible assumption) | assumption)
        obtain ⟨ad243, A243_3, c243_3, e243, hx243_0, hx243_1, hx243_2, hx243_3, hl243_3, hi243_3⟩ := at_T29 HR1_3.out x6_1 p243 q243
        have hw243_3 := hx243_3
        have hw243_2 := hx243_2
        have hw243_1 := hx243_1
        have hw243_0 := hx243_0
        cases e243
        first | replace hx243_0 := (HB.out.cell (World.block_lt_of_cell? w _ hx243_0)).trans hx243_0 | skip
        first | replace hx243_1 := (HB.out.cell (World.block_lt_of_cell? w _ hx243_1)).trans hx243_1 | skip
        first | replace hx243_2 := (HB.out.cell (World.block_lt_of_cell? w _ hx243_2)).trans hx243_2 | skip
        first | replace hx243_3 := (HB.out.cell (World.block_lt_of_cell? w _ hx243_3)).trans hx243_3 | skip
        have HR243_3 := Aside0.mk hi243_3
        have HC243_3 := Aside0.mk hl243_3
        clear hi243_3 hl243_3
        replace p243 := eq_true p243
        replace q243 := eq_true q243
        refine start_ (n := 11) (S := fun w' => w'.cell? ⟨gb238, 0, none⟩ = some (.slice A0_0 l0_0.length c0_0) ∧ w'.cell? ⟨gb238, 1, none⟩ = some (.slice A0_1 l0_1.length c0_1) ∧ w'.cell? ⟨gb239, 0, none⟩ = some (.int .i64 a1_0) ∧ w'.cell? ⟨gb239, 1, none⟩ = some (.int .i64 a1_1) ∧ w'.cell? ⟨gb239, 2, none⟩ = some (.string a1_2) ∧ w'.cell? ⟨gb239, 3, none⟩ = some (.slice (some ad243) l1_3.length c1_3) ∧ w'.cell? (ad243.add ((x6_1).toNat * 4)) = some (.int .i64 ((rd_T29 l1_3 x6_1).f0)) ∧ w'.cell? ⟨(ad243.add ((x6_1).toNat * 4)).block, (ad243.add ((x6_1).toNat * 4)).off + 1, none⟩ = some (.int .i64 ((rd_T29 l1_3 x6_1).f1)) ∧ w'.cell? ⟨(ad243.add ((x6_1).toNat * 4)).block, (ad243.add ((x6_1).toNat * 4)).off + 2, none⟩ = some (.string ((rd_T29 l1_3 x6_1).f2)) ∧ w'.cell? ⟨(ad243.add ((x6_1).toNat * 4)).block, (ad243.add ((x6_1).toNat * 4)).off + 3, none⟩ = some (.slice A243_3 ((rd_T29 l1_3 x6_1).f3).length c243_3)) (ds := []) (mB 11 0) (by kernel_rfl) rfl rfl ⟨(blk_cell BK238.out 0).trans rfl, (blk_cell BK238.out 1).trans rfl, (blk_cell BK239.out 0).trans rfl, (blk_cell BK239.out 1).trans rfl, (blk_cell BK239.out 2).trans rfl, (blk_cell BK239.out 3).trans rfl, ((HB.out.cell (World.block_lt_of_cell? w _ hw243_0)).trans hw243_0), ((HB.out.cell (World.block_lt_of_cell? w _ hw243_1)).trans hw243_1), ((HB.out.cell (World.block_lt_of_cell? w _ hw243_2)).trans hw243_2), ((HB.out.cell (World.block_lt_of_cell? w _ hw243_3)).trans hw243_3)⟩ (fun hHeld => ?_); refine with_tabW spec_l8Kind.tab5 spec_l8Kind.bits5 (fun HT_ HW_ => ?_)
        generalize wr.drew = w21 at HO_5 BK238 BK239 HB HR243_3 hx243_0 hx243_1 hx243_2 hx243_3 hHeld ⊢
        refine pn 0 17 HT_.out ?_
        refine pn 2 19 HT_.out ?_
        refine pn 4 21 HT_.out ?_
        refine tk 1 18 HT_.out HW_.out hHeld ?_
        refine tk 3 20 HT_.out HW_.out hHeld ?_
        refine pn 5 22 HT_.out ?_
        refine tk 6 23 HT_.out HW_.out hHeld ?_
        refine on 7 24 HT_.out (fun K hK => ?_)
        refine gs Try.func38 #[.agg #[.slice A0_0 l0_0.length c0_0, .slice A0_1 l0_1.length c0_1], .agg #[.int .i64 ((rd_T29 l1_3 x6_1).f0), .int .i64 ((rd_T29 l1_3 x6_1).f1), .string ((rd_T29 l1_3 x6_1).f2), .slice A243_3 ((rd_T29 l1_3 x6_1).f3).length c243_3]] ?_
        with_reducible refine (ih k1 (by have := HK1.out; omega) _ _ l0_0 _ _ l0_1 ((rd_T29 l1_3 x6_1).f0) ((rd_T29 l1_3 x6_1).f1) ((rd_T29 l1_3 x6_1).f2) _ _ ((rd_T29 l1_3 x6_1).f3) t244 _ ?side1 ?side2 ?side3 ?side4 ?side5 ?side6 A9.out).mono ?_
        (case side1 => repeat (first | exact (Kd.C_below HR0_0.out HB.out) | (with_reducible refine Kd.C_alloc ?_ _) | (with_reducible refine Kd.C_drewN ?_ _) | (with_reducible refine Kd.C_drew ?_)))
        (case side2 => exact HC0_0.out)
        (case side3 => repeat (first | exact (Kd.C_below HR0_1.out HB.out) | (with_reducible refine Kd.C_alloc ?_ _) | (with_reducible refine Kd.C_drewN ?_ _) | (with_reducible refine Kd.C_drew ?_)))
        (case side4 => exact HC0_1.out)
        (case side5 => repeat (first | exact (Kd.C_below HR243_3.out HB.out) | (with_reducible refine Kd.C_alloc ?_ _) | (with_reducible refine Kd.C_drewN ?_ _) | (with_reducible refine Kd.C_drew ?_)))
        (case side6 => exact HC243_3.out)
        rintro e w22 ⟨rfl, hb⟩
        refine ⟨_, rfl, ?_⟩
        replace HO_5 := Aside0.mk (Kd.R_below (by exact Kd.xR HO_5.out) hb)
        replace BK238 := bB BK238 hb
        replace BK239 := bB BK239 hb
        replace HB := bS HB hb
        (try clear hb)
        (try clear hb2)
        (try clear hk)
        (try clear hi)
        refine hK.out _ _ ⟨(blk_cell BK238.out 0).trans rfl, (blk_cell BK238.out 1).trans rfl, (blk_cell BK239.out 0).trans rfl, (blk_cell BK239.out 1).trans rfl, (blk_cell BK239.out 2).trans rfl, (blk_cell BK239.out 3).trans rfl, ((HB.out.cell (World.block_lt_of_cell? w _ hw243_0)).trans hw243_0), ((HB.out.cell (World.block_lt_of_cell? w _ hw243_1)).trans hw243_1), ((HB.out.cell (World.block_lt_of_cell? w _ hw243_2)).trans hw243_2), ((HB.out.cell (World.block_lt_of_cell? w _ hw243_3)).trans hw243_3)⟩ (fun hHeld => ?_)
        clear hK K
        refine nm (some 24) ?_
        refine on 8 25 HT_.out (fun K hK => ?_)
        refine value_ (w1 := ?_) (v := ?_) (by rfl) rfl ?_ ?_
        rotate_left 2
        ·
         go_simp
         constructor
         ·
          rfl
         ·
          rfl
        refine hK.out _ _ ⟨(blk_cell (blk_alloc BK238.out _) 0).trans rfl, (blk_cell (blk_alloc BK238.out _) 1).trans rfl, (blk_cell (blk_alloc BK239.out _) 0).trans rfl, (blk_cell (blk_alloc BK239.out _) 1).trans rfl, (blk_cell (blk_alloc BK239.out _) 2).trans rfl, (blk_cell (blk_alloc BK239.out _) 3).trans rfl, (World.cell?_alloc_lt _ _ _ (World.block_lt_of_cell? _ _ (((HB.out.cell (World.block_lt_of_cell? w _ hw243_0)).trans hw243_0)))).trans (((HB.out.cell (World.block_lt_of_cell? w _ hw243_0)).trans hw243_0)), (World.cell?_alloc_lt _ _ _ (World.block_lt_of_cell? _ _ (((HB.out.cell (World.block_lt_of_cell? w _ hw243_1)).trans hw243_1)))).trans (((HB.out.cell (World.block_lt_of_cell? w _ hw243_1)).trans hw243_1)), (World.cell?_alloc_lt _ _ _ (World.block_lt_of_cell? _ _ (((HB.out.cell (World.block_lt_of_cell? w _ hw243_2)).trans hw243_2)))).trans (((HB.out.cell (World.block_lt_of_cell? w _ hw243_2)).trans hw243_2)), (World.cell?_alloc_lt _ _ _ (World.block_lt_of_cell? _ _ (((HB.out.cell (World.block_lt_of_cell? w _ hw243_3)).trans hw243_3)))).trans (((HB.out.cell (World.block_lt_of_cell? w _ hw243_3)).trans hw243_3))⟩ (fun hHeld => ?_)
        clear hK K
        refine nm (some 25) ?_
        refine on 9 26 HT_.out (fun K hK => ?_)
        refine Kd.R_append_step (Kd.int .i64) (w0 := w) w.heap.size (by rfl) (.tmp 17) (.tmp 25) 89 3 (.int .i64 0) 8 rfl Try.underlying89 info3 rfl (by decide) (by omega) u5 x5_1 t244 [.int .i64 t244] (fun _ => True) (fun _ => False) rfl rfl ?aP (fun _ hk => hk.elim) ?aF ?aO ?aB ?aS ?aL ?_
        (case aP => exact rfl)
        (case aB => exact (by exact bw HB.out))
        (case aF => exact (fun _ _ => trivial))
        (case aO => exact (by exact Kd.xR HO_5.out))
        (case aS => exact (below_size (by exact bw HB.out)))
        (case aL => have := LMc10.out; omega)
        intro v246 w23 ho hb hg hat
        rw [← Ny245.out] at ho
        replace BK238 := Aside0.mk (blk_grown (g := gb238) (o := .cells #[.slice A0_0 l0_0.length c0_0, .slice A0_1 l0_1.length c0_1] 40 (0, 0)) (by exact bk BK238.out) hg (Kd.R_ne HO_5.out BK238.out (by decide)))
        replace BK239 := Aside0.mk (blk_grown (g := gb239) (o := .cells #[.int .i64 a1_0, .int .i64 a1_1, .string a1_2, .slice (some ad243) l1_3.length c1_3] 29 (0, 0)) (by exact bk BK239.out) hg (Kd.R_ne HO_5.out BK239.out (by decide)))
        replace HB := Aside0.mk (hb)
        have HO247 := Aside0.mk (ho)
        clear HO_5
        clear ho hb hg hat
        refine hK.out _ _ ⟨(blk_cell BK238.out 0).trans rfl, (blk_cell BK238.out 1).trans rfl, (blk_cell BK239.out 0).trans rfl, (blk_cell BK239.out 1).trans rfl, (blk_cell BK239.out 2).trans rfl, (blk_cell BK239.out 3).trans rfl, ((HB.out.cell (World.block_lt_of_cell? w _ hw243_0)).trans hw243_0), ((HB.out.cell (World.block_lt_of_cell? w _ hw243_1)).trans hw243_1), ((HB.out.cell (World.block_lt_of_cell? w _ hw243_2)).trans hw243_2), ((HB.out.cell (World.block_lt_of_cell? w _ hw243_3)).trans hw243_3)⟩ (fun hHeld => ?_)
        clear hK K
        refine nm (some 26) ?_
        refine pn 10 5 HT_.out ?_
        refine done_ (done_of HT_.out (by kernel_rfl)) ?_
        obtain ⟨Ao24, co24, eo24⟩ := Kd.R_slice HO247.out
        subst eo24
        have p248 : 0 ≤ (x6_1 : Int) := of_decide_eq_true (by first | (with_reducible assumption) | assumption)
        have q248 : x6_1 < (y245.length : Int) := of_decide_eq_true (by first | (with_reducible assumption) | assumption)
        obtain ⟨ad248, e248, hx248_0⟩ := Kd.at_int (Kd.R_reads' HO247.out).2.2 x6_1 p248 q248
        cases e248
        replace p248 := eq_true p248
        replace q248 := eq_true q248
        try go_wp2
        go_roundg k1
        case measure => have := HK1.out; omega
        case rel => exact ⟨(y245), (wrap64 (x6_1 + 1)), (by first | rfl | (simp; done) | (simp [*]; done)), H', ⟨by have := HK1.out; omega⟩, ⟨by exact Kd.xR HO247.out⟩, ⟨by exact bk BK238.out⟩, ⟨by exact bk BK239.out⟩, ⟨by exact bw HB.out⟩⟩
      ·
       rw [if_neg c11] at H; exact absurd H (by simp)
     ·
      rw [if_neg c10] at H; exact absurd H (by simp)
    ·
     rw [if_neg c8] at H; exact absurd H (by simp)
   ·
    rw [if_neg c7] at H; have c7b0 : decide (x6_1 < (l1_3.length : Int)) = false := decide_eq_false c7; clear c7
    have HC25 := Aside0.mk H
    clear H
    have hnb26 := NB239_238.out
    have hnc26 := NB238_239.out
    have hcz27_0 : wr.cell? ⟨gb239, 0, none⟩ = some (.int .i64 a1_0) := (blk_cell BK239.out 0).trans rfl
    have hcz27_1 : wr.cell? ⟨gb239, 1, none⟩ = some (.int .i64 a1_1) := (blk_cell BK239.out 1).trans rfl
    have hcz27_2 : wr.cell? ⟨gb239, 2, none⟩ = some (.string a1_2) := (blk_cell BK239.out 2).trans rfl
    have hcz27_3 : wr.cell? ⟨gb239, 3, none⟩ = some (.slice A1_3 l1_3.length c1_3) := (blk_cell BK239.out 3).trans rfl
    have hfz27_0 := blk_frozen BK239.out 0
    have hfz27_1 := blk_frozen BK239.out 1
    have hfz27_2 := blk_frozen BK239.out 2
    have hfz27_3 := blk_frozen BK239.out 3
    go_upto_if 34 with (fail)
    go_cut [34] (fun v34 wc => ∃ (kq : Nat) (x34_24 : Bool), v34 = .bool x34_24 ∧ Aside0 (spec_l8Kind.j1 kq x5_1 true 1 a1_0 x34_24 l0_0 l0_1 a1_0 a1_1 a1_2 l1_3 = some r) ∧ Aside0 (kq ≤ k1) ∧ Aside0 (Kd.R (Kd.int .i64) 3 wc w.heap.size (fun _ => True) u5 x5_1) ∧ Aside0 (wc.heap[gb238]? = some (.cells #[(.slice A0_0 l0_0.length c0_0), (.slice A0_1 l0_1.length c0_1)] 40 (0, 0))) ∧ Aside0 (wc.heap[gb239]? = some (.cells #[.int .i64 a1_0, .int .i64 a1_1, .string a1_2, (.slice A1_3 l1_3.length c1_3)] 29 (0, 0))) ∧ Aside0 (Below w.heap.size w wc))
    case first =>
     have H := HC25.out
     clear HC25
     by_cases c28 : a1_0 = 2
     ·
      rw [if_pos c28] at H; obtain ⟨c28b0, c28b1⟩ := eqY c28; clear c28
      (first | rw [c28b0] | (simp only [i64_w, i32_w]; rw [c28b0]) | rw [c28b2] | rw [c28b1] | skip)
      have H' := Aside0.mk H
      clear H
      go_wp2
      go_meet
      case rel => exact ⟨_, ((a1_0 == 2)), (by first | rfl | (simp; done) | (simp [*]; done)), H', ⟨by have := HK1.out; first | omega | exact Nat.le_refl _⟩, ⟨by exact Kd.xR HO_5.out⟩, ⟨by exact bk BK238.out⟩, ⟨by exact bk BK239.out⟩, ⟨by exact bw HB.out⟩⟩
     ·
      rw [if_neg c28] at H; obtain ⟨c28b0, c28b1⟩ := eqN c28
      (first | rw [c28b0] | (simp only [i64_w, i32_w]; rw [c28b0]) | rw [c28b2] | rw [c28b1] | skip)
      have H' := Aside0.mk H
      clear H
      go_wp2
      go_meet
      case rel => exact ⟨_, ((a1_0 == 6)), (by first | rfl | (simp; done) | (simp [*]; done)), H', ⟨by have := HK1.out; first | omega | exact Nat.le_refl _⟩, ⟨by exact Kd.xR HO_5.out⟩, ⟨by exact bk BK238.out⟩, ⟨by exact bk BK239.out⟩, ⟨by exact bw HB.out⟩⟩
    case rest =>
     clear HC25
     try clear c1
     try clear c2
     try clear p2
     try clear q2
     try clear hx2
     try clear c3
     try clear p6
     try clear c7
     try clear c7b0
     try clear c8
     try clear c8b0
     try clear c10
     try clear c11
     try clear c11b0
     try clear c12
     try clear c12b0
     try clear c12b1
     try clear c13
     try clear c19
     try clear c24
     try clear p24
     try clear q24
     try clear hx24
     try clear c26
     try clear c28
     try clear c28b0
     try clear c28b1
     try clear c28b2
     try clear hcz14_0
     try clear hcz14_1
     try clear hcz14_2
     try clear hcz14_3
     try clear hcz20_0
     try clear hcz20_1
     try clear hcz20_2
     try clear hcz20_3
     try clear hcz27_0
     try clear hcz27_1
     try clear hcz27_2
     try clear hcz27_3
     try clear hfz14_0
     try clear hfz14_1
     try clear hfz14_2
     try clear hfz14_3
     try clear hfz20_0
     try clear hfz20_1
     try clear hfz20_2
     try clear hfz20_3
     try clear hfz27_0
     try clear hfz27_1
     try clear hfz27_2
     try clear hfz27_3
     try clear hx243_0
     try clear hx243_1
     try clear hx243_2
     try clear hx243_3
     try clear hx248_0
     try clear p2
     try clear p243
     try clear p248
     try clear q243
     try clear q248
     obtain ⟨kq, x34_24, rfl, HA, HJ24, HO_5, BK238, BK239, HB⟩ := hcut
     cases kq with
     | zero => exact absurd HA.out (by simp [spec_l8Kind.j1])
     | succ kj24 =>
      have H := HA.out
      clear HA
      simp only [spec_l8Kind.j1] at H
      by_cases c29 : x34_24 = true
      ·
       subst c29
       have H1 : (if true = true then (some 2) else (some 0)) = some r := by rw [if_pos rfl] at H; exact H
       clear H
       have H := H1
       clear H1
       have c30 : true = true := rfl
       ·
        clear c30
        have H1 : (some 2) = some r := by rw [if_pos rfl] at H; exact H
        clear H
        have H := H1
        clear H1
        obtain rfl := Option.some.inj H
        go_wp2
        go_ret
        exact ⟨by first | rfl | (simp [errW_none, errW_some] <;> rfl) | (simp [*, errW_none, errW_some] <;> rfl), by exact bw HB.out⟩
      ·
       replace c29 := Bool.eq_false_iff.mpr c29
       subst c29
       have H1 : (if a1_0 = 3 then (spec_l8Kind.j2 kj24 x5_1 true 1 a1_0 (a1_0 == 3) l0_0 l0_1 a1_0 a1_1 a1_2 l1_3) else (if a1_0 = 4 then (spec_l8Kind.j2 kj24 x5_1 true 1 a1_0 (a1_0 == 4) l0_0 l0_1 a1_0 a1_1 a1_2 l1_3) else (spec_l8Kind.j2 kj24 x5_1 true 1 a1_0 (a1_0 == 5) l0_0 l0_1 a1_0 a1_1 a1_2 l1_3))) = some r := by rw [if_neg (show ¬ (false = true) by decide)] at H; exact H
       clear H
       have H := H1
       clear H1
       have HC31 := Aside0.mk H
       clear H
       go_upto_if 37 with (fail)
       go_cut [37] (fun v37 wc => ∃ (kq : Nat) (x37_30 : Bool), v37 = .bool x37_30 ∧ Aside0 (spec_l8Kind.j2 kq x5_1 true 1 a1_0 x37_30 l0_0 l0_1 a1_0 a1_1 a1_2 l1_3 = some r) ∧ Aside0 (kq ≤ kj24) ∧ Aside0 (Kd.R (Kd.int .i64) 3 wc w.heap.size (fun _ => True) u5 x5_1) ∧ Aside0 (wc.heap[gb238]? = some (.cells #[(.slice A0_0 l0_0.length c0_0), (.slice A0_1 l0_1.length c0_1)] 40 (0, 0))) ∧ Aside0 (wc.heap[gb239]? = some (.cells #[.int .i64 a1_0, .int .i64 a1_1, .string a1_2, (.slice A1_3 l1_3.length c1_3)] 29 (0, 0))) ∧ Aside0 (Below w.heap.size w wc))
       case first =>
        have H := HC31.out
        clear HC31
        by_cases c32 : a1_0 = 3
        ·
         rw [if_pos c32] at H; obtain ⟨c32b0, c32b1⟩ := eqY c32; clear c32
         (first | rw [c32b0] | (simp only [i64_w, i32_w]; rw [c32b0]) | rw [c32b2] | rw [c32b1] | skip)
         have H' := Aside0.mk H
         clear H
         go_wp2
         go_meet
         case rel => exact ⟨_, ((a1_0 == 3)), (by first | rfl | (simp; done) | (simp [*]; done)), H', ⟨by have := HK1.out; have := HJ24.out; first | omega | exact Nat.le_refl _⟩, ⟨by exact Kd.xR HO_5.out⟩, ⟨by exact bk BK238.out⟩, ⟨by exact bk BK239.out⟩, ⟨by exact bw HB.out⟩⟩
        ·
         rw [if_neg c32] at H; obtain ⟨c32b0, c32b1⟩ := eqN c32
         (first | rw [c32b0] | (simp only [i64_w, i32_w]; rw [c32b0]) | rw [c32b2] | rw [c32b1] | skip)
         by_cases c33 : a1_0 = 4
         ·
          rw [if_pos c33] at H; obtain ⟨c33b0, c33b1⟩ := eqY c33; clear c33
          have H' := Aside0.mk H
          clear H
          go_wp2
          go_meet
          case rel => exact ⟨_, ((a1_0 == 4)), (by first | rfl | (simp; done) | (simp [*]; done)), H', ⟨by have := HK1.out; have := HJ24.out; first | omega | exact Nat.le_refl _⟩, ⟨by exact Kd.xR HO_5.out⟩, ⟨by exact bk BK238.out⟩, ⟨by exact bk BK239.out⟩, ⟨by exact bw HB.out⟩⟩
         ·
          rw [if_neg c33] at H; obtain ⟨c33b0, c33b1⟩ := eqN c33
          have H' := Aside0.mk H
          clear H
          go_wp2
          go_meet
          case rel => exact ⟨_, ((a1_0 == 5)), (by first | rfl | (simp; done) | (simp [*]; done)), H', ⟨by have := HK1.out; have := HJ24.out; first | omega | exact Nat.le_refl _⟩, ⟨by exact Kd.xR HO_5.out⟩, ⟨by exact bk BK238.out⟩, ⟨by exact bk BK239.out⟩, ⟨by exact bw HB.out⟩⟩
       case rest =>
        clear HC31
        try clear c1
        try clear c2
        try clear p2
        try clear q2
        try clear hx2
        try clear c3
        try clear p6
        try clear c7
        try clear c7b0
        try clear c8
        try clear c8b0
        try clear c10
        try clear c11
        try clear c11b0
        try clear c12
        try clear c12b0
        try clear c12b1
        try clear c13
        try clear c19
        try clear c24
        try clear p24
        try clear q24
        try clear hx24
        try clear c26
        try clear c28
        try clear c28b0
        try clear c28b1
        try clear c28b2
        try clear c29
        try clear c30
        try clear c32
        try clear c32b0
        try clear c32b1
        try clear c32b2
        try clear c33
        try clear c33b0
        try clear c33b1
        try clear hcz14_0
        try clear hcz14_1
        try clear hcz14_2
        try clear hcz14_3
        try clear hcz20_0
        try clear hcz20_1
        try clear hcz20_2
        try clear hcz20_3
        try clear hcz27_0
        try clear hcz27_1
        try clear hcz27_2
        try clear hcz27_3
        try clear hfz14_0
        try clear hfz14_1
        try clear hfz14_2
        try clear hfz14_3
        try clear hfz20_0
        try clear hfz20_1
        try clear hfz20_2
        try clear hfz20_3
        try clear hfz27_0
        try clear hfz27_1
        try clear hfz27_2
        try clear hfz27_3
        try clear hx243_0
        try clear hx243_1
        try clear hx243_2
        try clear hx243_3
        try clear hx248_0
        try clear p2
        try clear p24
        try clear p243
        try clear p248
        try clear p6
        try clear q2
        try clear q24
        try clear q243
        try clear q248
        obtain ⟨kq, x37_30, rfl, HA, HJ30, HO_5, BK238, BK239, HB⟩ := hcut
        cases kq with
        | zero => exact absurd HA.out (by simp [spec_l8Kind.j2])
        | succ kj30 =>
         have H := HA.out
         clear HA
         simp only [spec_l8Kind.j2] at H
         by_cases c34 : x37_30 = true
         ·
          subst c34
          have H1 : (if true = true then (some 3) else (some 0)) = some r := by rw [if_pos rfl] at H; exact H
          clear H
          have H := H1
          clear H1
          have c35 : true = true := rfl
          ·
           clear c35
           have H1 : (some 3) = some r := by rw [if_pos rfl] at H; exact H
           clear H
           have H := H1
           clear H1
           obtain rfl := Option.some.inj H
           go_wp2
           go_ret
           exact ⟨by first | rfl | (simp [errW_none, errW_some] <;> rfl) | (simp [*, errW_none, errW_some] <;> rfl), by exact bw HB.out⟩
         ·
          replace c34 := Bool.eq_false_iff.mpr c34
          subst c34
          have H1 : (if a1_0 = 7 then ((spec_l7Kind.f kj30 l0_1 a1_2).bind fun t249 => (if true = true then (some t249) else (some 0))) else (if a1_0 = 8 then ((spec_l7Kind.f kj30 l0_0 a1_2).bind fun t250 => (if 0 < (x5_1.length : Int) then (if ((rd x5_1 0) = 3) then (some t250) else (some 0)) else (none))) else (if a1_0 = 9 then (if 0 < (x5_1.length : Int) then (if ((rd x5_1 0) = 3) then (some 1) else (some 0)) else (none)) else (if a1_0 = 10 then (if 0 < (x5_1.length : Int) then (if 1 < (x5_1.length : Int) then (if ((rd x5_1 0) = (rd x5_1 1)) then (some 1) else (some 0)) else (none)) else (none)) else (if a1_0 = 11 then (if 0 < (x5_1.length : Int) then (if (rd x5_1 0) = 2 then (if 1 < (x5_1.length : Int) then (if ((rd x5_1 1) = 2) then (some 1) else (some 0)) else (none)) else (some 0)) else (none)) else (if a1_0 = 12 then (if 0 < (x5_1.length : Int) then (if (rd x5_1 0) = 3 then (if 1 < (x5_1.length : Int) then (if ((rd x5_1 1) = 3) then (some 1) else (some 0)) else (none)) else (some 0)) else (none)) else (if a1_0 = 13 then (if 0 < (x5_1.length : Int) then (if ((rd x5_1 0) = 1) then (some 1) else (some 0)) else (none)) else (if a1_0 = 14 then (spec_l8Kind.j3 kj30 x5_1 true 1 (a1_0 == 14)) else (spec_l8Kind.j3 kj30 x5_1 true 1 (a1_0 == 15)))))))))) = some r := by rw [if_neg (show ¬ (false = true) by decide)] at H; exact H
          clear H
          have H := H1
          clear H1
          by_cases c36 : a1_0 = 7
          ·
           rw [if_pos c36] at H; obtain ⟨c36b0, c36b1⟩ := eqY c36; clear c36
           replace H := Option.bind_eq_some_iff.mp H
           obtain ⟨t249, A370, H⟩ := H
           replace H : (if true = true then (some t249) else (some 0)) = some r := H
           have A37 := Aside0.mk A370
           clear A370
           have c38 : true = true := rfl
           ·
            clear c38
            have H1 : (some t249) = some r := by rw [if_pos rfl] at H; exact H
            clear H
            have H := H1
            clear H1
            obtain rfl := Option.some.inj H
            have hnb39 := NB238_239.out
            have hnc39 := NB239_238.out
            have hcz40_0 : wc.cell? ⟨gb238, 0, none⟩ = some (.slice A0_0 l0_0.length c0_0) := (blk_cell BK238.out 0).trans rfl
            have hcz40_1 : wc.cell? ⟨gb238, 1, none⟩ = some (.slice A0_1 l0_1.length c0_1) := (blk_cell BK238.out 1).trans rfl
            have hfz40_0 := blk_frozen BK238.out 0
            have hfz40_1 := blk_frozen BK238.out 1
            have hcz41_0 : wc.cell? ⟨gb239, 0, none⟩ = some (.int .i64 a1_0) := (blk_cell BK239.out 0).trans rfl
            have hcz41_1 : wc.cell? ⟨gb239, 1, none⟩ = some (.int .i64 a1_1) := (blk_cell BK239.out 1).trans rfl
            have hcz41_2 : wc.cell? ⟨gb239, 2, none⟩ = some (.string a1_2) := (blk_cell BK239.out 2).trans rfl
            have hcz41_3 : wc.cell? ⟨gb239, 3, none⟩ = some (.slice A1_3 l1_3.length c1_3) := (blk_cell BK239.out 3).trans rfl
            have hfz41_0 := blk_frozen BK239.out 0
            have hfz41_1 := blk_frozen BK239.out 1
            have hfz41_2 := blk_frozen BK239.out 2
            have hfz41_3 := blk_frozen BK239.out 3
            go_wp2_with (first | ((with_reducible refine gate_callee (f := 66) rfl ?_); refine gl (some 47) Try.func66 #[.slice A0_1 l0_1.length c0_1, .string a1_2] ?_; (with_reducible refine (spec_l7Kind.calls kj30 _ _ l0_1 a1_2 t249 _ ?side1 ?side2 A37.out).mono ?_); (case side1 => repeat (first | exact (Kd.C_below HR0_1.out HB.out) | (with_reducible refine Kd.C_alloc ?_ _) | (with_reducible refine Kd.C_drewN ?_ _) | (with_reducible refine Kd.C_drew ?_))); (case side2 => exact HC0_1.out); rintro e w' ⟨rfl, ⟨nd, rfl⟩⟩; refine ⟨_, rfl, ?_⟩; (try (rw [drewN_self wc]; generalize hq_ : World.drewN wc _ = wc; have n0_ : Aside0 (Kd.R (Kd.int .i64) 3 wc w.heap.size (fun _ => True) u5 x5_1) := ⟨by rw [← hq_]; exact (by exact Kd.xR HO_5.out)⟩; have n1_ : Aside0 (wc.heap[gb238]? = some (.cells #[.slice A0_0 l0_0.length c0_0, .slice A0_1 l0_1.length c0_1] 40 (0, 0))) := ⟨by rw [← hq_]; exact (by exact bk BK238.out)⟩; have n2_ : Aside0 (wc.heap[gb239]? = some (.cells #[.int .i64 a1_0, .int .i64 a1_1, .string a1_2, .slice A1_3 l1_3.length c1_3] 29 (0, 0))) := ⟨by rw [← hq_]; exact (by exact bk BK239.out)⟩; have n3_ : Aside0 (Below w.heap.size w wc) := ⟨by rw [← hq_]; exact (by exact bw HB.out)⟩; clear HO_5 BK238 BK239 HB hq_; have HO_5 := n0_; have BK238 := n1_; have BK239 := n2_; have HB := n3_; clear n0_ n1_ n2_ n3_))))
            go_ret
            exact ⟨by first | rfl | (simp [errW_none, errW_some] <;> rfl) | (simp [*, errW_none, errW_some] <;> rfl), by exact bw HB.out⟩
          ·
           rw [if_neg c36] at H; obtain ⟨c36b0, c36b1⟩ := eqN c36
           by_cases c45 : a1_0 = 8
           ·
            rw [if_pos c45] at H; obtain ⟨c45b0, c45b1⟩ := eqY c45; clear c45
            replace H := Option.bind_eq_some_iff.mp H
            obtain ⟨t250, A460, H⟩ := H
            replace H : (if 0 < (x5_1.length : Int) then (if ((rd x5_1 0) = 3) then (some t250) else (some 0)) else (none)) = some r := H
            have A46 := Aside0.mk A460
            clear A460
            by_cases c47 : 0 < (x5_1.length : Int)
            ·
             rw [if_pos c47] at H; have c47b0 : decide (0 < (x5_1.length : Int)) = true := decide_eq_true c47
             have c47b1 : decide (0 < x5_1.length) = true := decide_eq_true (by omega)
             clear c47
             by_cases c48 : ((rd x5_1 0) = 3)
             ·
              rw [if_pos c48] at H; obtain ⟨c48b0, c48b1⟩ := eqY c48; clear c48
              obtain rfl := Option.some.inj H
              have hnb49 := NB238_239.out
              have hnc49 := NB239_238.out
              have hcz50_0 : wc.cell? ⟨gb238, 0, none⟩ = some (.slice A0_0 l0_0.length c0_0) := (blk_cell BK238.out 0).trans rfl
              have hcz50_1 : wc.cell? ⟨gb238, 1, none⟩ = some (.slice A0_1 l0_1.length c0_1) := (blk_cell BK238.out 1).trans rfl
              have hfz50_0 := blk_frozen BK238.out 0
              have hfz50_1 := blk_frozen BK238.out 1
              have hcz51_0 : wc.cell? ⟨gb239, 0, none⟩ = some (.int .i64 a1_0) := (blk_cell BK239.out 0).trans rfl
              have hcz51_1 : wc.cell? ⟨gb239, 1, none⟩ = some (.int .i64 a1_1) := (blk_cell BK239.out 1).trans rfl
              have hcz51_2 : wc.cell? ⟨gb239, 2, none⟩ = some (.string a1_2) := (blk_cell BK239.out 2).trans rfl
              have hcz51_3 : wc.cell? ⟨gb239, 3, none⟩ = some (.slice A1_3 l1_3.length c1_3) := (blk_cell BK239.out 3).trans rfl
              have hfz51_0 := blk_frozen BK239.out 0
              have hfz51_1 := blk_frozen BK239.out 1
              have hfz51_2 := blk_frozen BK239.out 2
              have hfz51_3 := blk_frozen BK239.out 3
              go_wp2_with (first | ((with_reducible refine gate_callee (f := 66) rfl ?_); refine gl (some 54) Try.func66 #[.slice A0_0 l0_0.length c0_0, .string a1_2] ?_; (with_reducible refine (spec_l7Kind.calls kj30 _ _ l0_0 a1_2 t250 _ ?side1 ?side2 A46.out).mono ?_); (case side1 => repeat (first | exact (Kd.C_below HR0_0.out HB.out) | (with_reducible refine Kd.C_alloc ?_ _) | (with_reducible refine Kd.C_drewN ?_ _) | (with_reducible refine Kd.C_drew ?_))); (case side2 => exact HC0_0.out); rintro e w' ⟨rfl, ⟨nd, rfl⟩⟩; refine ⟨_, rfl, ?_⟩; (try (rw [drewN_self wc]; generalize hq_ : World.drewN wc _ = wc; have n0_ : Aside0 (Kd.R (Kd.int .i64) 3 wc w.heap.size (fun _ => True) u5 x5_1) := ⟨by rw [← hq_]; exact (by exact Kd.xR HO_5.out)⟩; have n1_ : Aside0 (wc.heap[gb238]? = some (.cells #[.slice A0_0 l0_0.length c0_0, .slice A0_1 l0_1.length c0_1] 40 (0, 0))) := ⟨by rw [← hq_]; exact (by exact bk BK238.out)⟩; have n2_ : Aside0 (wc.heap[gb239]? = some (.cells #[.int .i64 a1_0, .int .i64 a1_1, .string a1_2, .slice A1_3 l1_3.length c1_3] 29 (0, 0))) := ⟨by rw [← hq_]; exact (by exact bk BK239.out)⟩; have n3_ : Aside0 (Below w.heap.size w wc) := ⟨by rw [← hq_]; exact (by exact bw HB.out)⟩; clear HO_5 BK238 BK239 HB hq_; have HO_5 := n0_; have BK238 := n1_; have BK239 := n2_; have HB := n3_; clear n0_ n1_ n2_ n3_)); obtain ⟨Ao52, co52, eo52⟩ := Kd.R_slice HO_5.out; subst eo52; have p251 : 0 ≤ (0 : Int) := (by omega); have q251 : 0 < (x5_1.length : Int) := of_decide_eq_true (by first | (with_reducible assumption) | assumption); obtain ⟨ad251, e251, hx251_0⟩ := Kd.at_int (Kd.R_reads' HO_5.out).2.2 0 p251 q251; cases e251; have qi251 : (0 < x5_1.length) = True := eq_true (by omega); (try rw [show ((0 : Int)).toNat = 0 from rfl] at hx251_0); (try rw [Addr.add_zero'] at hx251_0); replace p251 := eq_true p251; replace q251 := eq_true q251))
              go_ret
              exact ⟨by first | rfl | (simp [errW_none, errW_some] <;> rfl) | (simp [*, errW_none, errW_some] <;> rfl), by exact bw HB.out⟩
             ·
              rw [if_neg c48] at H; obtain ⟨c48b0, c48b1⟩ := eqN c48
              obtain rfl := Option.some.inj H
              have hnb53 := NB238_239.out
              have hnc53 := NB239_238.out
              have hcz54_0 : wc.cell? ⟨gb238, 0, none⟩ = some (.slice A0_0 l0_0.length c0_0) := (blk_cell BK238.out 0).trans rfl
              have hcz54_1 : wc.cell? ⟨gb238, 1, none⟩ = some (.slice A0_1 l0_1.length c0_1) := (blk_cell BK238.out 1).trans rfl
              have hfz54_0 := blk_frozen BK238.out 0
              have hfz54_1 := blk_frozen BK238.out 1
              have hcz55_0 : wc.cell? ⟨gb239, 0, none⟩ = some (.int .i64 a1_0) := (blk_cell BK239.out 0).trans rfl
              have hcz55_1 : wc.cell? ⟨gb239, 1, none⟩ = some (.int .i64 a1_1) := (blk_cell BK239.out 1).trans rfl
              have hcz55_2 : wc.cell? ⟨gb239, 2, none⟩ = some (.string a1_2) := (blk_cell BK239.out 2).trans rfl
              have hcz55_3 : wc.cell? ⟨gb239, 3, none⟩ = some (.slice A1_3 l1_3.length c1_3) := (blk_cell BK239.out 3).trans rfl
              have hfz55_0 := blk_frozen BK239.out 0
              have hfz55_1 := blk_frozen BK239.out 1
              have hfz55_2 := blk_frozen BK239.out 2
              have hfz55_3 := blk_frozen BK239.out 3
              go_wp2_with (first | ((with_reducible refine gate_callee (f := 66) rfl ?_); refine gl (some 54) Try.func66 #[.slice A0_0 l0_0.length c0_0, .string a1_2] ?_; (with_reducible refine (spec_l7Kind.calls kj30 _ _ l0_0 a1_2 t250 _ ?side1 ?side2 A46.out).mono ?_); (case side1 => repeat (first | exact (Kd.C_below HR0_0.out HB.out) | (with_reducible refine Kd.C_alloc ?_ _) | (with_reducible refine Kd.C_drewN ?_ _) | (with_reducible refine Kd.C_drew ?_))); (case side2 => exact HC0_0.out); rintro e w' ⟨rfl, ⟨nd, rfl⟩⟩; refine ⟨_, rfl, ?_⟩; (try (rw [drewN_self wc]; generalize hq_ : World.drewN wc _ = wc; have n0_ : Aside0 (Kd.R (Kd.int .i64) 3 wc w.heap.size (fun _ => True) u5 x5_1) := ⟨by rw [← hq_]; exact (by exact Kd.xR HO_5.out)⟩; have n1_ : Aside0 (wc.heap[gb238]? = some (.cells #[.slice A0_0 l0_0.length c0_0, .slice A0_1 l0_1.length c0_1] 40 (0, 0))) := ⟨by rw [← hq_]; exact (by exact bk BK238.out)⟩; have n2_ : Aside0 (wc.heap[gb239]? = some (.cells #[.int .i64 a1_0, .int .i64 a1_1, .string a1_2, .slice A1_3 l1_3.length c1_3] 29 (0, 0))) := ⟨by rw [← hq_]; exact (by exact bk BK239.out)⟩; have n3_ : Aside0 (Below w.heap.size w wc) := ⟨by rw [← hq_]; exact (by exact bw HB.out)⟩; clear HO_5 BK238 BK239 HB hq_; have HO_5 := n0_; have BK238 := n1_; have BK239 := n2_; have HB := n3_; clear n0_ n1_ n2_ n3_)); obtain ⟨Ao56, co56, eo56⟩ := Kd.R_slice HO_5.out; subst eo56; have p251 : 0 ≤ (0 : Int) := (by omega); have q251 : 0 < (x5_1.length : Int) := of_decide_eq_true (by first | (with_reducible assumption) | assumption); obtain ⟨ad251, e251, hx251_0⟩ := Kd.at_int (Kd.R_reads' HO_5.out).2.2 0 p251 q251; cases e251; have qi251 : (0 < x5_1.length) = True := eq_true (by omega); (try rw [show ((0 : Int)).toNat = 0 from rfl] at hx251_0); (try rw [Addr.add_zero'] at hx251_0); replace p251 := eq_true p251; replace q251 := eq_true q251))
              go_ret
              exact ⟨by first | rfl | (simp [errW_none, errW_some] <;> rfl) | (simp [*, errW_none, errW_some] <;> rfl), by exact bw HB.out⟩
            ·
             rw [if_neg c47] at H; exact absurd H (by simp)
           ·
            rw [if_neg c45] at H; obtain ⟨c45b0, c45b1⟩ := eqN c45
            by_cases c57 : a1_0 = 9
            ·
             rw [if_pos c57] at H; obtain ⟨c57b0, c57b1⟩ := eqY c57; clear c57
             by_cases c58 : 0 < (x5_1.length : Int)
             ·
              rw [if_pos c58] at H; have c58b0 : decide (0 < (x5_1.length : Int)) = true := decide_eq_true c58
              have c58b1 : decide (0 < x5_1.length) = true := decide_eq_true (by omega)
              clear c58
              by_cases c59 : ((rd x5_1 0) = 3)
              ·
               rw [if_pos c59] at H; obtain ⟨c59b0, c59b1⟩ := eqY c59; clear c59
               obtain rfl := Option.some.inj H
               obtain ⟨Ao60, co60, eo60⟩ := Kd.R_slice HO_5.out
               subst eo60
               have p252 : 0 ≤ (0 : Int) := (by omega)
               have q252 : 0 < (x5_1.length : Int) := of_decide_eq_true (by first | (with_reducible assumption) | assumption)
               obtain ⟨ad252, e252, hx252_0⟩ := Kd.at_int (Kd.R_reads' HO_5.out).2.2 0 p252 q252
               cases e252
               have qi252 : (0 < x5_1.length) = True := eq_true (by omega)
               (try rw [show ((0 : Int)).toNat = 0 from rfl] at hx252_0)
               (try rw [Addr.add_zero'] at hx252_0)
               replace p252 := eq_true p252
               replace q252 := eq_true q252
               go_wp2
               go_ret
               exact ⟨by first | rfl | (simp [errW_none, errW_some] <;> rfl) | (simp [*, errW_none, errW_some] <;> rfl), by exact bw HB.out⟩
              ·
               rw [if_neg c59] at H; obtain ⟨c59b0, c59b1⟩ := eqN c59
               obtain rfl := Option.some.inj H
               obtain ⟨Ao61, co61, eo61⟩ := Kd.R_slice HO_5.out
               subst eo61
               have p252 : 0 ≤ (0 : Int) := (by omega)
               have q252 : 0 < (x5_1.length : Int) := of_decide_eq_true (by first | (with_reducible assumption) | assumption)
               obtain ⟨ad252, e252, hx252_0⟩ := Kd.at_int (Kd.R_reads' HO_5.out).2.2 0 p252 q252
               cases e252
               have qi252 : (0 < x5_1.length) = True := eq_true (by omega)
               (try rw [show ((0 : Int)).toNat = 0 from rfl] at hx252_0)
               (try rw [Addr.add_zero'] at hx252_0)
               replace p252 := eq_true p252
               replace q252 := eq_true q252
               go_wp2
               go_ret
               exact ⟨by first | rfl | (simp [errW_none, errW_some] <;> rfl) | (simp [*, errW_none, errW_some] <;> rfl), by exact bw HB.out⟩
             ·
              rw [if_neg c58] at H; exact absurd H (by simp)
            ·
             rw [if_neg c57] at H; obtain ⟨c57b0, c57b1⟩ := eqN c57
             by_cases c62 : a1_0 = 10
             ·
              rw [if_pos c62] at H; obtain ⟨c62b0, c62b1⟩ := eqY c62; clear c62
              by_cases c63 : 0 < (x5_1.length : Int)
              ·
               rw [if_pos c63] at H; have c63b0 : decide (0 < (x5_1.length : Int)) = true := decide_eq_true c63
               have c63b1 : decide (0 < x5_1.length) = true := decide_eq_true (by omega)
               clear c63
               by_cases c64 : 1 < (x5_1.length : Int)
               ·
                rw [if_pos c64] at H; have c64b0 : decide (1 < (x5_1.length : Int)) = true := decide_eq_true c64
                have c64b1 : decide (1 < x5_1.length) = true := decide_eq_true (by omega)
                clear c64
                by_cases c65 : ((rd x5_1 0) = (rd x5_1 1))
                ·
                 rw [if_pos c65] at H; obtain ⟨c65b0, c65b1⟩ := eqY c65; clear c65
                 obtain rfl := Option.some.inj H
                 try go_wp2
                 replace HO_5 := Aside0.mk (Kd.R_drew HO_5.out)
                 replace BK238 := Aside0.mk (blk_drew BK238.out)
                 replace BK239 := Aside0.mk (blk_drew BK239.out)
                 replace HB := Aside0.mk (below_drew1 HB.out)
                 obtain ⟨Ao67, co67, eo67⟩ := Kd.R_slice HO_5.out
                 (first | subst eo67 | (injection eo67 with f1_ f2_ f3_; have f4_ := f1_.symm; have f5_ := f3_.symm; clear f1_ f2_ f3_; subst f4_; subst f5_))
                 have p253 : 0 ≤ (0 : Int) := (by omega)
                 have q253 : 0 < (x5_1.length : Int) := of_decide_eq_true (by first | (with_reducible assumption) | assumption)
                 obtain ⟨ad253, e253, hx253_0⟩ := Kd.at_int (Kd.R_reads' HO_5.out).2.2 0 p253 q253
                 cases e253
                 have qi253 : (0 < x5_1.length) = True := eq_true (by omega)
                 (try rw [show ((0 : Int)).toNat = 0 from rfl] at hx253_0)
                 (try rw [Addr.add_zero'] at hx253_0)
                 replace p253 := eq_true p253
                 replace q253 := eq_true q253
                 have p254 : 0 ≤ (1 : Int) := (by omega)
                 have q254 : 1 < (x5_1.length : Int) := of_decide_eq_true (by first | (with_reducible assumption) | assumption)
                 obtain ⟨ad254, e254, hx254_0⟩ := Kd.at_int (Kd.R_reads' HO_5.out).2.2 1 p254 q254
                 obtain rfl : ad253 = ad254 := (by injection e254)
                 (try simp only [show (1 : Int).toNat = 1 from rfl, Nat.reduceMul, Nat.reduceEqDiff, Go.Addr.add, ↓reduceIte] at hx254_0)
                 have qi254 : (1 < x5_1.length) = True := eq_true (by omega)
                 (try rw [show ((1 : Int)).toNat = 1 from rfl] at hx254_0)
                 replace p254 := eq_true p254
                 replace q254 := eq_true q254
                 refine start_ (n := 8) (S := fun w' => w'.cell? ad253 = some (.int .i64 (rd x5_1 0)) ∧ w'.cell? ⟨ad253.block, ad253.off + 1, none⟩ = some (.int .i64 (rd x5_1 1))) (ds := []) (mB 8 0) (by kernel_rfl) rfl rfl ⟨hx253_0, hx254_0⟩ (fun hHeld => ?_); refine with_tabW spec_l8Kind.tab26 spec_l8Kind.bits26 (fun HT_ HW_ => ?_)
                 generalize wc.drew = w66 at HO_5 BK238 BK239 HB hx253_0 hx254_0 hHeld ⊢
                 refine pn 0 67 HT_.out ?_
                 refine pn 1 68 HT_.out ?_
                 refine pn 3 70 HT_.out ?_
                 refine pn 4 71 HT_.out ?_
                 refine tk 2 69 HT_.out HW_.out hHeld ?_
                 refine tk 5 72 HT_.out HW_.out hHeld ?_
                 refine pn 6 73 HT_.out ?_
                 refine pn 7 7 HT_.out ?_
                 refine done_ (done_of HT_.out (by kernel_rfl)) ?_
                 try go_wp2
                 go_ret
                 exact ⟨by first | rfl | (simp [errW_none, errW_some] <;> rfl) | (simp [*, errW_none, errW_some] <;> rfl), by exact bw HB.out⟩
                ·
                 rw [if_neg c65] at H; obtain ⟨c65b0, c65b1⟩ := eqN c65
                 obtain rfl := Option.some.inj H
                 try go_wp2
                 replace HO_5 := Aside0.mk (Kd.R_drew HO_5.out)
                 replace BK238 := Aside0.mk (blk_drew BK238.out)
                 replace BK239 := Aside0.mk (blk_drew BK239.out)
                 replace HB := Aside0.mk (below_drew1 HB.out)
                 obtain ⟨Ao69, co69, eo69⟩ := Kd.R_slice HO_5.out
                 (first | subst eo69 | (injection eo69 with f1_ f2_ f3_; have f4_ := f1_.symm; have f5_ := f3_.symm; clear f1_ f2_ f3_; subst f4_; subst f5_))
                 have p253 : 0 ≤ (0 : Int) := (by omega)
                 have q253 : 0 < (x5_1.length : Int) := of_decide_eq_true (by first | (with_reducible assumption) | assumption)
                 obtain ⟨ad253, e253, hx253_0⟩ := Kd.at_int (Kd.R_reads' HO_5.out).2.2 0 p253 q253
                 cases e253
                 have qi253 : (0 < x5_1.length) = True := eq_true (by omega)
                 (try rw [show ((0 : Int)).toNat = 0 from rfl] at hx253_0)
                 (try rw [Addr.add_zero'] at hx253_0)
                 replace p253 := eq_true p253
                 replace q253 := eq_true q253
                 have p254 : 0 ≤ (1 : Int) := (by omega)
                 have q254 : 1 < (x5_1.length : Int) := of_decide_eq_true (by first | (with_reducible assumption) | assumption)
                 obtain ⟨ad254, e254, hx254_0⟩ := Kd.at_int (Kd.R_reads' HO_5.out).2.2 1 p254 q254
                 obtain rfl : ad253 = ad254 := (by injection e254)
                 (try simp only [show (1 : Int).toNat = 1 from rfl, Nat.reduceMul, Nat.reduceEqDiff, Go.Addr.add, ↓reduceIte] at hx254_0)
                 have qi254 : (1 < x5_1.length) = True := eq_true (by omega)
                 (try rw [show ((1 : Int)).toNat = 1 from rfl] at hx254_0)
                 replace p254 := eq_true p254
                 replace q254 := eq_true q254
                 refine start_ (n := 8) (S := fun w' => w'.cell? ad253 = some (.int .i64 (rd x5_1 0)) ∧ w'.cell? ⟨ad253.block, ad253.off + 1, none⟩ = some (.int .i64 (rd x5_1 1))) (ds := []) (mB 8 0) (by kernel_rfl) rfl rfl ⟨hx253_0, hx254_0⟩ (fun hHeld => ?_); refine with_tabW spec_l8Kind.tab26 spec_l8Kind.bits26 (fun HT_ HW_ => ?_)
                 generalize wc.drew = w68 at HO_5 BK238 BK239 HB hx253_0 hx254_0 hHeld ⊢
                 refine pn 0 67 HT_.out ?_
                 refine pn 1 68 HT_.out ?_
                 refine pn 3 70 HT_.out ?_
                 refine pn 4 71 HT_.out ?_
                 refine tk 2 69 HT_.out HW_.out hHeld ?_
                 refine tk 5 72 HT_.out HW_.out hHeld ?_
                 refine pn 6 73 HT_.out ?_
                 refine pn 7 7 HT_.out ?_
                 refine done_ (done_of HT_.out (by kernel_rfl)) ?_
                 try go_wp2
                 go_ret
                 exact ⟨by first | rfl | (simp [errW_none, errW_some] <;> rfl) | (simp [*, errW_none, errW_some] <;> rfl), by exact bw HB.out⟩
               ·
                rw [if_neg c64] at H; exact absurd H (by simp)
              ·
               rw [if_neg c63] at H; exact absurd H (by simp)
             ·
              rw [if_neg c62] at H; obtain ⟨c62b0, c62b1⟩ := eqN c62
              by_cases c70 : a1_0 = 11
              ·
               rw [if_pos c70] at H; obtain ⟨c70b0, c70b1⟩ := eqY c70; clear c70
               by_cases c71 : 0 < (x5_1.length : Int)
               ·
                rw [if_pos c71] at H; have c71b0 : decide (0 < (x5_1.length : Int)) = true := decide_eq_true c71
                have c71b1 : decide (0 < x5_1.length) = true := decide_eq_true (by omega)
                clear c71
                by_cases c72 : (rd x5_1 0) = 2
                ·
                 rw [if_pos c72] at H; obtain ⟨c72b0, c72b1⟩ := eqY c72; clear c72
                 by_cases c73 : 1 < (x5_1.length : Int)
                 ·
                  rw [if_pos c73] at H; have c73b0 : decide (1 < (x5_1.length : Int)) = true := decide_eq_true c73
                  have c73b1 : decide (1 < x5_1.length) = true := decide_eq_true (by omega)
                  clear c73
                  by_cases c74 : ((rd x5_1 1) = 2)
                  ·
                   rw [if_pos c74] at H; obtain ⟨c74b0, c74b1⟩ := eqY c74; clear c74
                   obtain rfl := Option.some.inj H
                   obtain ⟨Ao75, co75, eo75⟩ := Kd.R_slice HO_5.out
                   subst eo75
                   have p255 : 0 ≤ (0 : Int) := (by omega)
                   have q255 : 0 < (x5_1.length : Int) := of_decide_eq_true (by first | (with_reducible assumption) | assumption)
                   obtain ⟨ad255, e255, hx255_0⟩ := Kd.at_int (Kd.R_reads' HO_5.out).2.2 0 p255 q255
                   cases e255
                   have qi255 : (0 < x5_1.length) = True := eq_true (by omega)
                   (try rw [show ((0 : Int)).toNat = 0 from rfl] at hx255_0)
                   (try rw [Addr.add_zero'] at hx255_0)
                   replace p255 := eq_true p255
                   replace q255 := eq_true q255
                   have p256 : 0 ≤ (1 : Int) := (by omega)
                   have q256 : 1 < (x5_1.length : Int) := of_decide_eq_true (by first | (with_reducible assumption) | assumption)
                   obtain ⟨ad256, e256, hx256_0⟩ := Kd.at_int (Kd.R_reads' HO_5.out).2.2 1 p256 q256
                   obtain rfl : ad255 = ad256 := (by injection e256)
                   (try simp only [show (1 : Int).toNat = 1 from rfl, Nat.reduceMul, Nat.reduceEqDiff, Go.Addr.add, ↓reduceIte] at hx256_0)
                   have qi256 : (1 < x5_1.length) = True := eq_true (by omega)
                   (try rw [show ((1 : Int)).toNat = 1 from rfl] at hx256_0)
                   replace p256 := eq_true p256
                   replace q256 := eq_true q256
                   go_wp2
                   go_ret
                   exact ⟨by first | rfl | (simp [errW_none, errW_some] <;> rfl) | (simp [*, errW_none, errW_some] <;> rfl), by exact bw HB.out⟩
                  ·
                   rw [if_neg c74] at H; obtain ⟨c74b0, c74b1⟩ := eqN c74
                   obtain rfl := Option.some.inj H
                   obtain ⟨Ao76, co76, eo76⟩ := Kd.R_slice HO_5.out
                   subst eo76
                   have p255 : 0 ≤ (0 : Int) := (by omega)
                   have q255 : 0 < (x5_1.length : Int) := of_decide_eq_true (by first | (with_reducible assumption) | assumption)
                   obtain ⟨ad255, e255, hx255_0⟩ := Kd.at_int (Kd.R_reads' HO_5.out).2.2 0 p255 q255
                   cases e255
                   have qi255 : (0 < x5_1.length) = True := eq_true (by omega)
                   (try rw [show ((0 : Int)).toNat = 0 from rfl] at hx255_0)
                   (try rw [Addr.add_zero'] at hx255_0)
                   replace p255 := eq_true p255
                   replace q255 := eq_true q255
                   have p256 : 0 ≤ (1 : Int) := (by omega)
                   have q256 : 1 < (x5_1.length : Int) := of_decide_eq_true (by first | (with_reducible assumption) | assumption)
                   obtain ⟨ad256, e256, hx256_0⟩ := Kd.at_int (Kd.R_reads' HO_5.out).2.2 1 p256 q256
                   obtain rfl : ad255 = ad256 := (by injection e256)
                   (try simp only [show (1 : Int).toNat = 1 from rfl, Nat.reduceMul, Nat.reduceEqDiff, Go.Addr.add, ↓reduceIte] at hx256_0)
                   have qi256 : (1 < x5_1.length) = True := eq_true (by omega)
                   (try rw [show ((1 : Int)).toNat = 1 from rfl] at hx256_0)
                   replace p256 := eq_true p256
                   replace q256 := eq_true q256
                   go_wp2
                   go_ret
                   exact ⟨by first | rfl | (simp [errW_none, errW_some] <;> rfl) | (simp [*, errW_none, errW_some] <;> rfl), by exact bw HB.out⟩
                 ·
                  rw [if_neg c73] at H; exact absurd H (by simp)
                ·
                 rw [if_neg c72] at H; obtain ⟨c72b0, c72b1⟩ := eqN c72
                 obtain rfl := Option.some.inj H
                 obtain ⟨Ao77, co77, eo77⟩ := Kd.R_slice HO_5.out
                 subst eo77
                 have p255 : 0 ≤ (0 : Int) := (by omega)
                 have q255 : 0 < (x5_1.length : Int) := of_decide_eq_true (by first | (with_reducible assumption) | assumption)
                 obtain ⟨ad255, e255, hx255_0⟩ := Kd.at_int (Kd.R_reads' HO_5.out).2.2 0 p255 q255
                 cases e255
                 have qi255 : (0 < x5_1.length) = True := eq_true (by omega)
                 (try rw [show ((0 : Int)).toNat = 0 from rfl] at hx255_0)
                 (try rw [Addr.add_zero'] at hx255_0)
                 replace p255 := eq_true p255
                 replace q255 := eq_true q255
                 go_wp2
                 go_ret
                 exact ⟨by first | rfl | (simp [errW_none, errW_some] <;> rfl) | (simp [*, errW_none, errW_some] <;> rfl), by exact bw HB.out⟩
               ·
                rw [if_neg c71] at H; exact absurd H (by simp)
              ·
               rw [if_neg c70] at H; obtain ⟨c70b0, c70b1⟩ := eqN c70
               by_cases c78 : a1_0 = 12
               ·
                rw [if_pos c78] at H; obtain ⟨c78b0, c78b1⟩ := eqY c78; clear c78
                by_cases c79 : 0 < (x5_1.length : Int)
                ·
                 rw [if_pos c79] at H; have c79b0 : decide (0 < (x5_1.length : Int)) = true := decide_eq_true c79
                 have c79b1 : decide (0 < x5_1.length) = true := decide_eq_true (by omega)
                 clear c79
                 by_cases c80 : (rd x5_1 0) = 3
                 ·
                  rw [if_pos c80] at H; obtain ⟨c80b0, c80b1⟩ := eqY c80; clear c80
                  by_cases c81 : 1 < (x5_1.length : Int)
                  ·
                   rw [if_pos c81] at H; have c81b0 : decide (1 < (x5_1.length : Int)) = true := decide_eq_true c81
                   have c81b1 : decide (1 < x5_1.length) = true := decide_eq_true (by omega)
                   clear c81
                   by_cases c82 : ((rd x5_1 1) = 3)
                   ·
                    rw [if_pos c82] at H; obtain ⟨c82b0, c82b1⟩ := eqY c82; clear c82
                    obtain rfl := Option.some.inj H
                    obtain ⟨Ao83, co83, eo83⟩ := Kd.R_slice HO_5.out
                    subst eo83
                    have p257 : 0 ≤ (0 : Int) := (by omega)
                    have q257 : 0 < (x5_1.length : Int) := of_decide_eq_true (by first | (with_reducible assumption) | assumption)
                    obtain ⟨ad257, e257, hx257_0⟩ := Kd.at_int (Kd.R_reads' HO_5.out).2.2 0 p257 q257
                    cases e257
                    have qi257 : (0 < x5_1.length) = True := eq_true (by omega)
                    (try rw [show ((0 : Int)).toNat = 0 from rfl] at hx257_0)
                    (try rw [Addr.add_zero'] at hx257_0)
                    replace p257 := eq_true p257
                    replace q257 := eq_true q257
                    have p258 : 0 ≤ (1 : Int) := (by omega)
                    have q258 : 1 < (x5_1.length : Int) := of_decide_eq_true (by first | (with_reducible assumption) | assumption)
                    obtain ⟨ad258, e258, hx258_0⟩ := Kd.at_int (Kd.R_reads' HO_5.out).2.2 1 p258 q258
                    obtain rfl : ad257 = ad258 := (by injection e258)
                    (try simp only [show (1 : Int).toNat = 1 from rfl, Nat.reduceMul, Nat.reduceEqDiff, Go.Addr.add, ↓reduceIte] at hx258_0)
                    have qi258 : (1 < x5_1.length) = True := eq_true (by omega)
                    (try rw [show ((1 : Int)).toNat = 1 from rfl] at hx258_0)
                    replace p258 := eq_true p258
                    replace q258 := eq_true q258
                    go_wp2
                    go_ret
                    exact ⟨by first | rfl | (simp [errW_none, errW_some] <;> rfl) | (simp [*, errW_none, errW_some] <;> rfl), by exact bw HB.out⟩
                   ·
                    rw [if_neg c82] at H; obtain ⟨c82b0, c82b1⟩ := eqN c82
                    obtain rfl := Option.some.inj H
                    obtain ⟨Ao84, co84, eo84⟩ := Kd.R_slice HO_5.out
                    subst eo84
                    have p257 : 0 ≤ (0 : Int) := (by omega)
                    have q257 : 0 < (x5_1.length : Int) := of_decide_eq_true (by first | (with_reducible assumption) | assumption)
                    obtain ⟨ad257, e257, hx257_0⟩ := Kd.at_int (Kd.R_reads' HO_5.out).2.2 0 p257 q257
                    cases e257
                    have qi257 : (0 < x5_1.length) = True := eq_true (by omega)
                    (try rw [show ((0 : Int)).toNat = 0 from rfl] at hx257_0)
                    (try rw [Addr.add_zero'] at hx257_0)
                    replace p257 := eq_true p257
                    replace q257 := eq_true q257
                    have p258 : 0 ≤ (1 : Int) := (by omega)
                    have q258 : 1 < (x5_1.length : Int) := of_decide_eq_true (by first | (with_reducible assumption) | assumption)
                    obtain ⟨ad258, e258, hx258_0⟩ := Kd.at_int (Kd.R_reads' HO_5.out).2.2 1 p258 q258
                    obtain rfl : ad257 = ad258 := (by injection e258)
                    (try simp only [show (1 : Int).toNat = 1 from rfl, Nat.reduceMul, Nat.reduceEqDiff, Go.Addr.add, ↓reduceIte] at hx258_0)
                    have qi258 : (1 < x5_1.length) = True := eq_true (by omega)
                    (try rw [show ((1 : Int)).toNat = 1 from rfl] at hx258_0)
                    replace p258 := eq_true p258
                    replace q258 := eq_true q258
                    go_wp2
                    go_ret
                    exact ⟨by first | rfl | (simp [errW_none, errW_some] <;> rfl) | (simp [*, errW_none, errW_some] <;> rfl), by exact bw HB.out⟩
                  ·
                   rw [if_neg c81] at H; exact absurd H (by simp)
                 ·
                  rw [if_neg c80] at H; obtain ⟨c80b0, c80b1⟩ := eqN c80
                  obtain rfl := Option.some.inj H
                  obtain ⟨Ao85, co85, eo85⟩ := Kd.R_slice HO_5.out
                  subst eo85
                  have p257 : 0 ≤ (0 : Int) := (by omega)
                  have q257 : 0 < (x5_1.length : Int) := of_decide_eq_true (by first | (with_reducible assumption) | assumption)
                  obtain ⟨ad257, e257, hx257_0⟩ := Kd.at_int (Kd.R_reads' HO_5.out).2.2 0 p257 q257
                  cases e257
                  have qi257 : (0 < x5_1.length) = True := eq_true (by omega)
                  (try rw [show ((0 : Int)).toNat = 0 from rfl] at hx257_0)
                  (try rw [Addr.add_zero'] at hx257_0)
                  replace p257 := eq_true p257
                  replace q257 := eq_true q257
                  go_wp2
                  go_ret
                  exact ⟨by first | rfl | (simp [errW_none, errW_some] <;> rfl) | (simp [*, errW_none, errW_some] <;> rfl), by exact bw HB.out⟩
                ·
                 rw [if_neg c79] at H; exact absurd H (by simp)
               ·
                rw [if_neg c78] at H; obtain ⟨c78b0, c78b1⟩ := eqN c78
                by_cases c86 : a1_0 = 13
                ·
                 rw [if_pos c86] at H; obtain ⟨c86b0, c86b1⟩ := eqY c86; clear c86
                 by_cases c87 : 0 < (x5_1.length : Int)
                 ·
                  rw [if_pos c87] at H; have c87b0 : decide (0 < (x5_1.length : Int)) = true := decide_eq_true c87
                  have c87b1 : decide (0 < x5_1.length) = true := decide_eq_true (by omega)
                  clear c87
                  by_cases c88 : ((rd x5_1 0) = 1)
                  ·
                   rw [if_pos c88] at H; obtain ⟨c88b0, c88b1⟩ := eqY c88; clear c88
                   obtain rfl := Option.some.inj H
                   obtain ⟨Ao89, co89, eo89⟩ := Kd.R_slice HO_5.out
                   subst eo89
                   have p259 : 0 ≤ (0 : Int) := (by omega)
                   have q259 : 0 < (x5_1.length : Int) := of_decide_eq_true (by first | (with_reducible assumption) | assumption)
                   obtain ⟨ad259, e259, hx259_0⟩ := Kd.at_int (Kd.R_reads' HO_5.out).2.2 0 p259 q259
                   cases e259
                   have qi259 : (0 < x5_1.length) = True := eq_true (by omega)
                   (try rw [show ((0 : Int)).toNat = 0 from rfl] at hx259_0)
                   (try rw [Addr.add_zero'] at hx259_0)
                   replace p259 := eq_true p259
                   replace q259 := eq_true q259
                   go_wp2
                   go_ret
                   exact ⟨by first | rfl | (simp [errW_none, errW_some] <;> rfl) | (simp [*, errW_none, errW_some] <;> rfl), by exact bw HB.out⟩
                  ·
                   rw [if_neg c88] at H; obtain ⟨c88b0, c88b1⟩ := eqN c88
                   obtain rfl := Option.some.inj H
                   obtain ⟨Ao90, co90, eo90⟩ := Kd.R_slice HO_5.out
                   subst eo90
                   have p259 : 0 ≤ (0 : Int) := (by omega)
                   have q259 : 0 < (x5_1.length : Int) := of_decide_eq_true (by first | (with_reducible assumption) | assumption)
                   obtain ⟨ad259, e259, hx259_0⟩ := Kd.at_int (Kd.R_reads' HO_5.out).2.2 0 p259 q259
                   cases e259
                   have qi259 : (0 < x5_1.length) = True := eq_true (by omega)
                   (try rw [show ((0 : Int)).toNat = 0 from rfl] at hx259_0)
                   (try rw [Addr.add_zero'] at hx259_0)
                   replace p259 := eq_true p259
                   replace q259 := eq_true q259
                   go_wp2
                   go_ret
                   exact ⟨by first | rfl | (simp [errW_none, errW_some] <;> rfl) | (simp [*, errW_none, errW_some] <;> rfl), by exact bw HB.out⟩
                 ·
                  rw [if_neg c87] at H; exact absurd H (by simp)
                ·
                 rw [if_neg c86] at H; obtain ⟨c86b0, c86b1⟩ := eqN c86
                 have HC91 := Aside0.mk H
                 clear H
                 go_upto_if 104 with (fail)
                 go_cut [104] (fun v104 wc => ∃ (kq : Nat) (x104_90 : Bool), v104 = .bool x104_90 ∧ Aside0 (spec_l8Kind.j3 kq x5_1 true 1 x104_90 = some r) ∧ Aside0 (kq ≤ kj30) ∧ Aside0 (Kd.R (Kd.int .i64) 3 wc w.heap.size (fun _ => True) u5 x5_1) ∧ Aside0 (wc.heap[gb238]? = some (.cells #[(.slice A0_0 l0_0.length c0_0), (.slice A0_1 l0_1.length c0_1)] 40 (0, 0))) ∧ Aside0 (wc.heap[gb239]? = some (.cells #[.int .i64 a1_0, .int .i64 a1_1, .string a1_2, (.slice A1_3 l1_3.length c1_3)] 29 (0, 0))) ∧ Aside0 (Below w.heap.size w wc))
                 case first =>
                  have H := HC91.out
                  clear HC91
                  by_cases c92 : a1_0 = 14
                  ·
                   rw [if_pos c92] at H; obtain ⟨c92b0, c92b1⟩ := eqY c92; clear c92
                   (first | rw [c92b0] | (simp only [i64_w, i32_w]; rw [c92b0]) | rw [c92b2] | rw [c92b1] | skip)
                   have H' := Aside0.mk H
                   clear H
                   go_wp2
                   go_meet
                   case rel => exact ⟨_, ((a1_0 == 14)), (by first | rfl | (simp; done) | (simp [*]; done)), H', ⟨by have := HK1.out; have := HJ24.out; have := HJ30.out; first | omega | exact Nat.le_refl _⟩, ⟨by exact Kd.xR HO_5.out⟩, ⟨by exact bk BK238.out⟩, ⟨by exact bk BK239.out⟩, ⟨by exact bw HB.out⟩⟩
                  ·
                   rw [if_neg c92] at H; obtain ⟨c92b0, c92b1⟩ := eqN c92
                   (first | rw [c92b0] | (simp only [i64_w, i32_w]; rw [c92b0]) | rw [c92b2] | rw [c92b1] | skip)
                   have H' := Aside0.mk H
                   clear H
                   go_wp2
                   go_meet
                   case rel => exact ⟨_, ((a1_0 == 15)), (by first | rfl | (simp; done) | (simp [*]; done)), H', ⟨by have := HK1.out; have := HJ24.out; have := HJ30.out; first | omega | exact Nat.le_refl _⟩, ⟨by exact Kd.xR HO_5.out⟩, ⟨by exact bk BK238.out⟩, ⟨by exact bk BK239.out⟩, ⟨by exact bw HB.out⟩⟩
                 case rest =>
                  clear HC91
                  try clear c1
                  try clear p2
                  try clear q2
                  try clear hx2
                  try clear qi2
                  try clear c4
                  try clear c5
                  try clear c6
                  try clear c7
                  try clear c8
                  try clear c9
                  try clear p25
                  try clear q25
                  try clear hx25
                  try clear qi25
                  try clear c45
                  try clear c45b0
                  try clear c45b1
                  try clear c47
                  try clear c53
                  try clear c57
                  try clear c57b0
                  try clear c57b1
                  try clear c58
                  try clear c58b0
                  try clear c58b1
                  try clear c59
                  try clear c59b0
                  try clear c59b1
                  try clear c62
                  try clear c62b0
                  try clear c62b1
                  try clear c63
                  try clear c63b0
                  try clear c63b1
                  try clear c64
                  try clear c64b0
                  try clear c64b1
                  try clear c65
                  try clear c65b0
                  try clear c65b1
                  try clear c66
                  try clear c70
                  try clear c70b0
                  try clear c70b1
                  try clear c71
                  try clear c71b0
                  try clear c71b1
                  try clear c72
                  try clear c72b0
                  try clear c72b1
                  try clear c73
                  try clear c73b0
                  try clear c73b1
                  try clear c74
                  try clear c74b0
                  try clear c74b1
                  try clear c78
                  try clear c78b0
                  try clear c78b1
                  try clear c79
                  try clear c79b0
                  try clear c79b1
                  try clear c80
                  try clear c80b0
                  try clear c80b1
                  try clear c81
                  try clear c81b0
                  try clear c81b1
                  try clear c82
                  try clear c82b0
                  try clear c82b1
                  try clear c86
                  try clear c86b0
                  try clear c86b1
                  try clear c87
                  try clear c87b0
                  try clear c87b1
                  try clear c88
                  try clear c88b0
                  try clear c88b1
                  try clear c92
                  try clear c92b0
                  try clear c92b1
                  try clear c92b2
                  try clear hcz54_0
                  try clear hcz54_1
                  try clear hcz55_0
                  try clear hcz55_1
                  try clear hcz55_2
                  try clear hcz55_3
                  try clear hfz54_0
                  try clear hfz54_1
                  try clear hfz55_0
                  try clear hfz55_1
                  try clear hfz55_2
                  try clear hfz55_3
                  try clear hx251_0
                  try clear hx252_0
                  try clear hx253_0
                  try clear hx254_0
                  try clear hx255_0
                  try clear hx256_0
                  try clear hx257_0
                  try clear hx258_0
                  try clear hx259_0
                  try clear p251
                  try clear p252
                  try clear p253
                  try clear p254
                  try clear p255
                  try clear p256
                  try clear p257
                  try clear p258
                  try clear p259
                  try clear q251
                  try clear q252
                  try clear q253
                  try clear q254
                  try clear q255
                  try clear q256
                  try clear q257
                  try clear q258
                  try clear q259
                  obtain ⟨kq, x104_90, rfl, HA, HJ90, HO_5, BK238, BK239, HB⟩ := hcut
                  cases kq with
                  | zero => exact absurd HA.out (by simp [spec_l8Kind.j3])
                  | succ kj90 =>
                   have H := HA.out
                   clear HA
                   simp only [spec_l8Kind.j3] at H
                   by_cases c93 : x104_90 = true
                   ·
                    subst c93
                    have H1 : (if 0 < (x5_1.length : Int) then (if (rd x5_1 0) = 1 then (if 1 < (x5_1.length : Int) then (if ((rd x5_1 1) = 1) then (some 1) else (some 0)) else (none)) else (some 0)) else (none)) = some r := by rw [if_pos rfl] at H; exact H
                    clear H
                    have H := H1
                    clear H1
                    by_cases c94 : 0 < (x5_1.length : Int)
                    ·
                     rw [if_pos c94] at H; have c94b0 : decide (0 < (x5_1.length : Int)) = true := decide_eq_true c94
                     have c94b1 : decide (0 < x5_1.length) = true := decide_eq_true (by omega)
                     clear c94
                     by_cases c95 : (rd x5_1 0) = 1
                     ·
                      rw [if_pos c95] at H; obtain ⟨c95b0, c95b1⟩ := eqY c95; clear c95
                      by_cases c96 : 1 < (x5_1.length : Int)
                      ·
                       rw [if_pos c96] at H; have c96b0 : decide (1 < (x5_1.length : Int)) = true := decide_eq_true c96
                       have c96b1 : decide (1 < x5_1.length) = true := decide_eq_true (by omega)
                       clear c96
                       by_cases c97 : ((rd x5_1 1) = 1)
                       ·
                        rw [if_pos c97] at H; obtain ⟨c97b0, c97b1⟩ := eqY c97; clear c97
                        obtain rfl := Option.some.inj H
                        obtain ⟨Ao98, co98, eo98⟩ := Kd.R_slice HO_5.out
                        subst eo98
                        have p260 : 0 ≤ (0 : Int) := (by omega)
                        have q260 : 0 < (x5_1.length : Int) := of_decide_eq_true (by first | (with_reducible assumption) | assumption)
                        obtain ⟨ad260, e260, hx260_0⟩ := Kd.at_int (Kd.R_reads' HO_5.out).2.2 0 p260 q260
                        cases e260
                        have qi260 : (0 < x5_1.length) = True := eq_true (by omega)
                        (try rw [show ((0 : Int)).toNat = 0 from rfl] at hx260_0)
                        (try rw [Addr.add_zero'] at hx260_0)
                        replace p260 := eq_true p260
                        replace q260 := eq_true q260
                        have p261 : 0 ≤ (1 : Int) := (by omega)
                        have q261 : 1 < (x5_1.length : Int) := of_decide_eq_true (by first | (with_reducible assumption) | assumption)
                        obtain ⟨ad261, e261, hx261_0⟩ := Kd.at_int (Kd.R_reads' HO_5.out).2.2 1 p261 q261
                        obtain rfl : ad260 = ad261 := (by injection e261)
                        (try simp only [show (1 : Int).toNat = 1 from rfl, Nat.reduceMul, Nat.reduceEqDiff, Go.Addr.add, ↓reduceIte] at hx261_0)
                        have qi261 : (1 < x5_1.length) = True := eq_true (by omega)
                        (try rw [show ((1 : Int)).toNat = 1 from rfl] at hx261_0)
                        replace p261 := eq_true p261
                        replace q261 := eq_true q261
                        go_wp2
                        go_ret
                        exact ⟨by first | rfl | (simp [errW_none, errW_some] <;> rfl) | (simp [*, errW_none, errW_some] <;> rfl), by exact bw HB.out⟩
                       ·
                        rw [if_neg c97] at H; obtain ⟨c97b0, c97b1⟩ := eqN c97
                        obtain rfl := Option.some.inj H
                        obtain ⟨Ao99, co99, eo99⟩ := Kd.R_slice HO_5.out
                        subst eo99
                        have p260 : 0 ≤ (0 : Int) := (by omega)
                        have q260 : 0 < (x5_1.length : Int) := of_decide_eq_true (by first | (with_reducible assumption) | assumption)
                        obtain ⟨ad260, e260, hx260_0⟩ := Kd.at_int (Kd.R_reads' HO_5.out).2.2 0 p260 q260
                        cases e260
                        have qi260 : (0 < x5_1.length) = True := eq_true (by omega)
                        (try rw [show ((0 : Int)).toNat = 0 from rfl] at hx260_0)
                        (try rw [Addr.add_zero'] at hx260_0)
                        replace p260 := eq_true p260
                        replace q260 := eq_true q260
                        have p261 : 0 ≤ (1 : Int) := (by omega)
                        have q261 : 1 < (x5_1.length : Int) := of_decide_eq_true (by first | (with_reducible assumption) | assumption)
                        obtain ⟨ad261, e261, hx261_0⟩ := Kd.at_int (Kd.R_reads' HO_5.out).2.2 1 p261 q261
                        obtain rfl : ad260 = ad261 := (by injection e261)
                        (try simp only [show (1 : Int).toNat = 1 from rfl, Nat.reduceMul, Nat.reduceEqDiff, Go.Addr.add, ↓reduceIte] at hx261_0)
                        have qi261 : (1 < x5_1.length) = True := eq_true (by omega)
                        (try rw [show ((1 : Int)).toNat = 1 from rfl] at hx261_0)
                        replace p261 := eq_true p261
                        replace q261 := eq_true q261
                        go_wp2
                        go_ret
                        exact ⟨by first | rfl | (simp [errW_none, errW_some] <;> rfl) | (simp [*, errW_none, errW_some] <;> rfl), by exact bw HB.out⟩
                      ·
                       rw [if_neg c96] at H; exact absurd H (by simp)
                     ·
                      rw [if_neg c95] at H; obtain ⟨c95b0, c95b1⟩ := eqN c95
                      obtain rfl := Option.some.inj H
                      obtain ⟨Ao100, co100, eo100⟩ := Kd.R_slice HO_5.out
                      subst eo100
                      have p260 : 0 ≤ (0 : Int) := (by omega)
                      have q260 : 0 < (x5_1.length : Int) := of_decide_eq_true (by first | (with_reducible assumption) | assumption)
                      obtain ⟨ad260, e260, hx260_0⟩ := Kd.at_int (Kd.R_reads' HO_5.out).2.2 0 p260 q260
                      cases e260
                      have qi260 : (0 < x5_1.length) = True := eq_true (by omega)
                      (try rw [show ((0 : Int)).toNat = 0 from rfl] at hx260_0)
                      (try rw [Addr.add_zero'] at hx260_0)
                      replace p260 := eq_true p260
                      replace q260 := eq_true q260
                      go_wp2
                      go_ret
                      exact ⟨by first | rfl | (simp [errW_none, errW_some] <;> rfl) | (simp [*, errW_none, errW_some] <;> rfl), by exact bw HB.out⟩
                    ·
                     rw [if_neg c94] at H; exact absurd H (by simp)
                   ·
                    replace c93 := Bool.eq_false_iff.mpr c93
                    subst c93
                    have H1 : (if true = true then (some 1) else (some 0)) = some r := by rw [if_neg (show ¬ (false = true) by decide)] at H; exact H
                    clear H
                    have H := H1
                    clear H1
                    have c101 : true = true := rfl
                    ·
                     clear c101
                     have H1 : (some 1) = some r := by rw [if_pos rfl] at H; exact H
                     clear H
                     have H := H1
                     clear H1
                     obtain rfl := Option.some.inj H
                     go_wp2
                     go_ret
                     exact ⟨by first | rfl | (simp [errW_none, errW_some] <;> rfl) | (simp [*, errW_none, errW_some] <;> rfl), by exact bw HB.out⟩

end Go.Proofs.Ytbbbgochcfccgaa.P
