-- Written by a program of this session (wip/tool).
import Derived.Test.YtoipfhdlgoaldaaPx0
import Derived.Test.YtoipfhdlgoaldaaPx1045
import Derived.Test.YtoipfhdlgoaldaaPx1057
namespace Go.Proofs.Ytoipfhdlgoaldaa.P
open Go.RowKit Go.Proofs.YtoipfhdlgoaldaaW.PrintWords Go.Proofs.YtoipfhdlgoaldaaW.PrintLast Go.Proofs.YtoipfhdlgoaldaaW.PrintMore
attribute [local go_sem] max2_int min2_int max_two min_two max_three min_three max_four min_four   -- for this text's walks alone
set_option linter.unusedVariables false
set_option linter.unusedSimpArgs false

/-! ### spec_WorldValid: function 37 -/
mutual
def spec_WorldValid.l0 : Nat → List (S74) → Int → Option (Bool)
 | 0, _, _ => none
 | k + 1, x0, x3 => if x3 < (x0.length : Int) then (spec_WorldValid.l1 k x0 x3 0) else (some (decide ((x0.length : Int) ≤ 7)))
def spec_WorldValid.l1 : Nat → List (S74) → Int → Int → Option (Bool)
 | 0, _, _, _ => none
 | k + 1, x0, x3, x4 => if 0 ≤ x3 then (if x3 < (x0.length : Int) then (if x4 < (((rd_T74 x0 x3).f0).length : Int) then (if 0 ≤ x4 then ((spec_l1In.f (rd ((rd_T74 x0 x3).f0) x4) 0 (wrap64 (x3 - 1))).bind fun t229 => (if t229 = true then (if x4 > 0 then (if 0 ≤ (wrap64 (x4 - 1)) then (if (wrap64 (x4 - 1)) < (((rd_T74 x0 x3).f0).length : Int) then (if (rd ((rd_T74 x0 x3).f0) x4) ≤ (rd ((rd_T74 x0 x3).f0) (wrap64 (x4 - 1))) then (some false) else (spec_WorldValid.l1 k x0 x3 (wrap64 (x4 + 1)))) else (none)) else (none)) else (spec_WorldValid.l1 k x0 x3 (wrap64 (x4 + 1)))) else (some false))) else (none)) else ((spec_l2Fields.f k ((rd_T74 x0 x3).f1) (x0.length : Int)).bind fun t235 => (if t235 = true then (spec_WorldValid.l0 k x0 (wrap64 (x3 + 1))) else (some false)))) else (none)) else (none)
end
def spec_WorldValid.f (k : Nat) (l0 : List (S74)) : Option (Bool) := spec_WorldValid.l0 k l0 0
theorem spec_WorldValid.mono_l : ∀ k, (∀ y0 y1, LeO (spec_WorldValid.l0 k y0 y1) (spec_WorldValid.l0 (k + 1) y0 y1)) ∧ (∀ y0 y1 y2, LeO (spec_WorldValid.l1 k y0 y1 y2) (spec_WorldValid.l1 (k + 1) y0 y1 y2))
 | 0 => ⟨fun _ _ r h => by simp [spec_WorldValid.l0] at h, fun _ _ _ r h => by simp [spec_WorldValid.l1] at h⟩
 | k + 1 => by
  obtain ⟨ih0, ih1⟩ := spec_WorldValid.mono_l k
  refine ⟨?_, ?_⟩
  ·
   intro y0 y1
   unfold spec_WorldValid.l0
   repeat' first
   | (with_reducible exact ih0 _ _)
   | (with_reducible exact ih1 _ _ _)
   | (with_reducible exact spec_l2Fields.mono _ _ _)
   | (with_reducible exact LeO.refl _)
   | (with_reducible exact LeO.none _)
   | (with_reducible refine LeO.ite ?_ ?_)
   | (with_reducible refine LeO.bind ?_ (fun _ => ?_))
   | exact ih0 _ _
   | exact ih1 _ _ _
   | exact spec_l2Fields.mono _ _ _
   | exact LeO.none _
   | refine LeO.ite ?_ ?_
   | refine LeO.bind ?_ (fun _ => ?_)
  ·
   intro y0 y1 y2
   unfold spec_WorldValid.l1
   repeat' first
   | (with_reducible exact ih0 _ _)
   | (with_reducible exact ih1 _ _ _)
   | (with_reducible exact spec_l2Fields.mono _ _ _)
   | (with_reducible exact LeO.refl _)
   | (with_reducible exact LeO.none _)
   | (with_reducible refine LeO.ite ?_ ?_)
   | (with_reducible refine LeO.bind ?_ (fun _ => ?_))
   | exact ih0 _ _
   | exact ih1 _ _ _
   | exact spec_l2Fields.mono _ _ _
   | exact LeO.none _
   | refine LeO.ite ?_ ?_
   | refine LeO.bind ?_ (fun _ => ?_)
theorem spec_WorldValid.mono : ∀ a0 k, LeO (spec_WorldValid.f k a0) (spec_WorldValid.f (k + 1) a0) := by
 intro a0 k
 obtain ⟨ih0, ih1⟩ := spec_WorldValid.mono_l k
 unfold spec_WorldValid.f
 repeat' first
   | (with_reducible exact ih0 _ _)
   | (with_reducible exact ih1 _ _ _)
   | (with_reducible exact spec_l2Fields.mono _ _ _)
   | (with_reducible exact LeO.refl _)
   | (with_reducible exact LeO.none _)
   | (with_reducible refine LeO.ite ?_ ?_)
   | (with_reducible refine LeO.bind ?_ (fun _ => ?_))
   | exact ih0 _ _
   | exact ih1 _ _ _
   | exact spec_l2Fields.mono _ _ _
   | exact LeO.none _
   | refine LeO.ite ?_ ?_
   | refine LeO.bind ?_ (fun _ => ?_)
def spec_WorldValid.T7 : Bool × List (List Nat × List Nat) := (true, [([], []), ([], []), ([0, 1], [0, 1]), ([2], [2]), ([3], [3]), ([], []), ([4, 5], [4, 5]), ([6], [6]), ([], []), ([8], [8]), ([7, 9], [7, 9]), ([10], [10]), ([11, 10], [11]), ([12], [12]), ([13, 12], [12, 13]), ([14, 12, 12], [12, 14]), ([15], [15]), ([15], [15]), ([16, 17, 15], [15, 16, 17]), ([18, 15], [15, 18]), ([19, 15], [15, 19]), ([15], [15]), ([20, 21, 15], [15, 20, 21]), ([22, 15], [15, 22]), ([15], [15]), ([15], [15]), ([24, 25, 15], [15, 24, 25]), ([26, 15], [15, 26]), ([27, 15], [15, 27]), ([15], [15]), ([29, 15], [15, 29]), ([28, 30, 15], [15, 28, 30]), ([31, 15], [15, 31]), ([23, 32, 15], [15, 23, 32]), ([15, 33, 12], [12, 15, 33]), ([12, 34], [12, 34])])
def spec_WorldValid.B7 : List Nat := [0, 0, 3, 7, 15, 0, 63, 127, 0, 256, 1023, 2047, 4095, 8191, 16383, 32767, 65535, 65535, 262143, 524287, 1048575, 65535, 4194303, 8388607, 65535, 65535, 50397183, 117506047, 251723775, 65535, 536936447, 2130771967, 4278255615, 8589934591, 17179869183, 34359738367]
theorem spec_WorldValid.tab7 : rtab .any (opsOf Try.f37 7) = spec_WorldValid.T7 := by kernel_rfl
theorem spec_WorldValid.bits7 : waitsOk spec_WorldValid.T7.2 spec_WorldValid.B7 = true := by kernel_rfl
set_option maxHeartbeats 8000000 in
set_option maxRecDepth 100000 in
theorem spec_WorldValid.calls (k : Nat) (A0 : Option Addr) (c0 : Nat) (l0 : List (S74)) (r : Bool) (w : World) (hr0 : Kd.C k74 w A0 l0.length l0) (hc0 : l0.length ≤ c0) (h : spec_WorldValid.f k l0 = some r) :
  Calls Try.prog 37 #[.slice A0 l0.length c0] w fun e w' => e = .returned (.bool r) ∧ Below w.heap.size w w' := by
 have HR0 := Aside0.mk hr0
 have HC0 := Aside0.mk hc0
 clear hr0 hc0
 have HB := Aside0.mk (Below.refl w.heap.size w)
 have H : (spec_WorldValid.l0 k l0 0) = some r := h
 clear h
 have H' := Aside0.mk H
 clear H
 go_enter Try.func37, Try.ntmps37
 go_wp2
 go_loopg [3] k (fun kq v3 w' => ∃ (x3_1 : Int), v3 = .int .i64 x3_1 ∧ Aside0 (spec_WorldValid.l0 kq l0 x3_1 = some r) ∧ Aside0 (kq ≤ k) ∧ Aside0 (Below w.heap.size w w'))
 case atStart => exact ⟨(0), (by first | rfl | (simp; done) | (simp [*]; done)), H', ⟨Nat.le_refl _⟩, ⟨by exact bw HB.out⟩⟩
 case round =>
  clear H'
  obtain ⟨x3_1, rfl, HA, HK1, HB⟩ := hrel
  cases gk with
  | zero => exact absurd HA.out (by simp [spec_WorldValid.l0])
  | succ k1 =>
   have H := HA.out
   clear HA
   simp only [spec_WorldValid.l0] at H
   by_cases c2 : x3_1 < (l0.length : Int)
   ·
    rw [if_pos c2] at H; have c2b0 : decide (x3_1 < (l0.length : Int)) = true := decide_eq_true c2; clear c2
    have H' := Aside0.mk H
    clear H
    go_wp2
    go_loopg [4] k1 (fun kq v4 w' => ∃ (x4_2 : Int), v4 = .int .i64 x4_2 ∧ Aside0 (spec_WorldValid.l1 kq l0 x3_1 x4_2 = some r) ∧ Aside0 (kq ≤ k1) ∧ Aside0 (Below w.heap.size w w'))
    case atStart => exact ⟨(0), (by first | rfl | (simp; done) | (simp [*]; done)), H', ⟨Nat.le_refl _⟩, ⟨by exact bw HB.out⟩⟩
    case round =>
     clear H'
     try clear c2
     try clear c2b0
     try clear p2
     obtain ⟨x4_2, rfl, HA, HK2, HB⟩ := hrel
     cases gk with
     | zero => exact absurd HA.out (by simp [spec_WorldValid.l1])
     | succ k2 =>
      have H := HA.out
      clear HA
      simp only [spec_WorldValid.l1] at H
      by_cases c3 : 0 ≤ x3_1
      ·
       rw [if_pos c3] at H; have c3b0 : decide (0 ≤ x3_1) = true := decide_eq_true c3; clear c3
       by_cases c4 : x3_1 < (l0.length : Int)
       ·
        rw [if_pos c4] at H; have c4b0 : decide (x3_1 < (l0.length : Int)) = true := decide_eq_true c4; clear c4
        by_cases c5 : x4_2 < (((rd_T74 l0 x3_1).f0).length : Int)
        ·
         rw [if_pos c5] at H; have c5b0 : decide (x4_2 < (((rd_T74 l0 x3_1).f0).length : Int)) = true := decide_eq_true c5; clear c5
         by_cases c6 : 0 ≤ x4_2
         ·
          rw [if_pos c6] at H; have c6b0 : decide (0 ≤ x4_2) = true := decide_eq_true c6; clear c6
          replace H := Option.bind_eq_some_iff.mp H
          obtain ⟨t229, A70, H⟩ := H
          replace H : (if t229 = true then (if x4_2 > 0 then (if 0 ≤ (wrap64 (x4_2 - 1)) then (if (wrap64 (x4_2 - 1)) < (((rd_T74 l0 x3_1).f0).length : Int) then (if (rd ((rd_T74 l0 x3_1).f0) x4_2) ≤ (rd ((rd_T74 l0 x3_1).f0) (wrap64 (x4_2 - 1))) then (some false) else (spec_WorldValid.l1 k2 l0 x3_1 (wrap64 (x4_2 + 1)))) else (none)) else (none)) else (spec_WorldValid.l1 k2 l0 x3_1 (wrap64 (x4_2 + 1)))) else (some false)) = some r := H
          have A7 := Aside0.mk A70
          clear A70
          by_cases c8 : t229 = true
          ·
           subst c8
           have H1 : (if x4_2 > 0 then (if 0 ≤ (wrap64 (x4_2 - 1)) then (if (wrap64 (x4_2 - 1)) < (((rd_T74 l0 x3_1).f0).length : Int) then (if (rd ((rd_T74 l0 x3_1).f0) x4_2) ≤ (rd ((rd_T74 l0 x3_1).f0) (wrap64 (x4_2 - 1))) then (some false) else (spec_WorldValid.l1 k2 l0 x3_1 (wrap64 (x4_2 + 1)))) else (none)) else (none)) else (spec_WorldValid.l1 k2 l0 x3_1 (wrap64 (x4_2 + 1)))) = some r := by rw [if_pos rfl] at H; exact H
           clear H
           have H := H1
           clear H1
           by_cases c9 : x4_2 > 0
           ·
            rw [if_pos c9] at H; have c9b0 : decide (0 < x4_2) = true := decide_eq_true c9; clear c9
            obtain ⟨ji10, hji10⟩ : ∃ j_ : Int, (wrap64 (x4_2 - 1)) = j_ := ⟨_, rfl⟩
            replace H : (if 0 ≤ (ji10) then (if (ji10) < (((rd_T74 l0 x3_1).f0).length : Int) then (if (rd ((rd_T74 l0 x3_1).f0) x4_2) ≤ (rd ((rd_T74 l0 x3_1).f0) (ji10)) then (some false) else (spec_WorldValid.l1 k2 l0 x3_1 (wrap64 (x4_2 + 1)))) else (none)) else (none)) = some r := by first | (rw [hji10] at H; exact H) | (simp only [hji10] at H ⊢; exact H)
            (try rw [hji10] at A7)
            have hji10w : (IntKind.i64.wrap (x4_2 - 1)) = ji10 := (i64_w _).trans hji10
            by_cases c11 : 0 ≤ (ji10)
            ·
             rw [if_pos c11] at H; have c11b0 : decide (0 ≤ (ji10)) = true := decide_eq_true c11; clear c11
             by_cases c12 : (ji10) < (((rd_T74 l0 x3_1).f0).length : Int)
             ·
              rw [if_pos c12] at H; have c12b0 : decide ((ji10) < (((rd_T74 l0 x3_1).f0).length : Int)) = true := decide_eq_true c12; clear c12
              by_cases c13 : (rd ((rd_T74 l0 x3_1).f0) x4_2) ≤ (rd ((rd_T74 l0 x3_1).f0) (ji10))
              ·
               rw [if_pos c13] at H; have c13b0 : decide ((rd ((rd_T74 l0 x3_1).f0) x4_2) ≤ (rd ((rd_T74 l0 x3_1).f0) (ji10))) = true := decide_eq_true c13; clear c13
               obtain rfl := Option.some.inj H
               have p226 : 0 ≤ (x3_1 : Int) := of_decide_eq_true (by first | (with_reducible assumption) | assumption)
               have q226 : x3_1 < (l0.length : Int) := of_decide_eq_true (by first | (with_reducible assumption) | assumption)
               obtain ⟨ad226, A226_0, c226_0, A226_1, c226_1, e226, hx226_0, hx226_1, hl226_0, hi226_0, hl226_1, hi226_1⟩ := at_T74 HR0.out x3_1 p226 q226
               cases e226
               first | replace hx226_0 := (HB.out.cell (World.block_lt_of_cell? w _ hx226_0)).trans hx226_0 | skip
               first | replace hx226_1 := (HB.out.cell (World.block_lt_of_cell? w _ hx226_1)).trans hx226_1 | skip
               have HR226_0 := Aside0.mk hi226_0
               have HC226_0 := Aside0.mk hl226_0
               clear hi226_0 hl226_0
               have HR226_1 := Aside0.mk hi226_1
               have HC226_1 := Aside0.mk hl226_1
               clear hi226_1 hl226_1
               replace p226 := eq_true p226
               replace q226 := eq_true q226
               try go_wp2
               replace HB := Aside0.mk (below_drew1 HB.out)
               have p227 : 0 ≤ (x3_1 : Int) := of_decide_eq_true (by first | (with_reducible assumption) | assumption)
               have q227 : x3_1 < (l0.length : Int) := of_decide_eq_true (by first | (with_reducible assumption) | assumption)
               obtain ⟨ad227, A227_0, c227_0, A227_1, c227_1, e227, hx227_0, hx227_1, hl227_0, hi227_0, hl227_1, hi227_1⟩ := at_T74 HR0.out x3_1 p227 q227
               have hw227_1 := hx227_1
               have hw227_0 := hx227_0
               obtain rfl : ad226 = ad227 := (by injection e227)
               first | replace hx227_0 := (HB.out.cell (World.block_lt_of_cell? w _ hx227_0)).trans hx227_0 | skip
               first | replace hx227_1 := (HB.out.cell (World.block_lt_of_cell? w _ hx227_1)).trans hx227_1 | skip
               have HR227_0 := Aside0.mk hi227_0
               have HC227_0 := Aside0.mk hl227_0
               clear hi227_0 hl227_0
               have HR227_1 := Aside0.mk hi227_1
               have HC227_1 := Aside0.mk hl227_1
               clear hi227_1 hl227_1
               replace p227 := eq_true p227
               replace q227 := eq_true q227
               have p228 : 0 ≤ (x4_2 : Int) := of_decide_eq_true (by first | (with_reducible assumption) | assumption)
               have q228 : x4_2 < (((rd_T74 l0 x3_1).f0).length : Int) := of_decide_eq_true (by first | (with_reducible assumption) | assumption)
               obtain ⟨ad228, e228, hx228_0⟩ := Kd.at_int HR227_0.out x4_2 p228 q228
               have hw228_0 := hx228_0
               cases e228
               first | replace hx228_0 := (HB.out.cell (World.block_lt_of_cell? w _ hx228_0)).trans hx228_0 | skip
               replace p228 := eq_true p228
               replace q228 := eq_true q228
               have p230 : 0 ≤ (x3_1 : Int) := of_decide_eq_true (by first | (with_reducible assumption) | assumption)
               have q230 : x3_1 < (l0.length : Int) := of_decide_eq_true (by first | (with_reducible assumption) | assumption)
               obtain ⟨ad230, A230_0, c230_0, A230_1, c230_1, e230, hx230_0, hx230_1, hl230_0, hi230_0, hl230_1, hi230_1⟩ := at_T74 HR0.out x3_1 p230 q230
               have hw230_1 := hx230_1
               have hw230_0 := hx230_0
               obtain rfl : ad226 = ad230 := (by injection e230)
               first | replace hx230_0 := (HB.out.cell (World.block_lt_of_cell? w _ hx230_0)).trans hx230_0 | skip
               first | replace hx230_1 := (HB.out.cell (World.block_lt_of_cell? w _ hx230_1)).trans hx230_1 | skip
               have HR230_0 := Aside0.mk hi230_0
               have HC230_0 := Aside0.mk hl230_0
               clear hi230_0 hl230_0
               have HR230_1 := Aside0.mk hi230_1
               have HC230_1 := Aside0.mk hl230_1
               clear hi230_1 hl230_1
               replace p230 := eq_true p230
               replace q230 := eq_true q230
               have ea_ := Option.some.inj (hx227_0.symm.trans hx230_0)
               injection ea_ with ea_ en_ ec_
               subst ea_
               subst ec_
               clear en_
               have ea_ := Option.some.inj (hx227_1.symm.trans hx230_1)
               injection ea_ with ea_ en_ ec_
               subst ea_
               subst ec_
               clear en_
               have p231 : 0 ≤ (x4_2 : Int) := of_decide_eq_true (by first | (with_reducible assumption) | assumption)
               have q231 : x4_2 < (((rd_T74 l0 x3_1).f0).length : Int) := of_decide_eq_true (by first | (with_reducible assumption) | assumption)
               obtain ⟨ad231, e231, hx231_0⟩ := Kd.at_int HR230_0.out x4_2 p231 q231
               have hw231_0 := hx231_0
               cases e231
               first | replace hx231_0 := (HB.out.cell (World.block_lt_of_cell? w _ hx231_0)).trans hx231_0 | skip
               replace p231 := eq_true p231
               replace q231 := eq_true q231
               have p232 : 0 ≤ (x3_1 : Int) := of_decide_eq_true (by first | (with_reducible assumption) | assumption)
               have q232 : x3_1 < (l0.length : Int) := of_decide_eq_true (by first | (with_reducible assumption) | assumption)
               obtain ⟨ad232, A232_0, c232_0, A232_1, c232_1, e232, hx232_0, hx232_1, hl232_0, hi232_0, hl232_1, hi232_1⟩ := at_T74 HR0.out x3_1 p232 q232
               have hw232_1 := hx232_1
               have hw232_0 := hx232_0
               obtain rfl : ad226 = ad232 := (by injection e232)
               first | replace hx232_0 := (HB.out.cell (World.block_lt_of_cell? w _ hx232_0)).trans hx232_0 | skip
               first | replace hx232_1 := (HB.out.cell (World.block_lt_of_cell? w _ hx232_1)).trans hx232_1 | skip
               have HR232_0 := Aside0.mk hi232_0
               have HC232_0 := Aside0.mk hl232_0
               clear hi232_0 hl232_0
               have HR232_1 := Aside0.mk hi232_1
               have HC232_1 := Aside0.mk hl232_1
               clear hi232_1 hl232_1
               replace p232 := eq_true p232
               replace q232 := eq_true q232
               have ea_ := Option.some.inj (hx227_0.symm.trans hx232_0)
               injection ea_ with ea_ en_ ec_
               subst ea_
               subst ec_
               clear en_
               have ea_ := Option.some.inj (hx227_1.symm.trans hx232_1)
               injection ea_ with ea_ en_ ec_
               subst ea_
               subst ec_
               clear en_
               have p233 : 0 ≤ ((ji10) : Int) := of_decide_eq_true (by first | (with_reducible assumption) | assumption)
               have q233 : (ji10) < (((rd_T74 l0 x3_1).f0).length : Int) := of_decide_eq_true (by first | (with_reducible assumption) | assumption)
               obtain ⟨ad233, e233, hx233_0⟩ := Kd.at_int HR232_0.out (ji10) p233 q233
               have hw233_0 := hx233_0
               cases e233
               first | replace hx233_0 := (HB.out.cell (World.block_lt_of_cell? w _ hx233_0)).trans hx233_0 | skip
               replace p233 := eq_true p233
               replace q233 := eq_true q233
               refine start_ (n := 36) (S := fun w' => w'.cell? (ad226.add ((x3_1).toNat * 2)) = some (.slice (some ad228) ((rd_T74 l0 x3_1).f0).length c227_0) ∧ w'.cell? ⟨(ad226.add ((x3_1).toNat * 2)).block, (ad226.add ((x3_1).toNat * 2)).off + 1, none⟩ = some (.slice A227_1 ((rd_T74 l0 x3_1).f1).length c227_1) ∧ w'.cell? (ad228.add (x4_2).toNat) = some (.int .i64 (rd ((rd_T74 l0 x3_1).f0) x4_2)) ∧ w'.cell? (ad226.add ((x3_1).toNat * 2)) = some (.slice (some ad228) ((rd_T74 l0 x3_1).f0).length c227_0) ∧ w'.cell? ⟨(ad226.add ((x3_1).toNat * 2)).block, (ad226.add ((x3_1).toNat * 2)).off + 1, none⟩ = some (.slice A227_1 ((rd_T74 l0 x3_1).f1).length c227_1) ∧ w'.cell? (ad228.add (x4_2).toNat) = some (.int .i64 (rd ((rd_T74 l0 x3_1).f0) x4_2)) ∧ w'.cell? (ad226.add ((x3_1).toNat * 2)) = some (.slice (some ad228) ((rd_T74 l0 x3_1).f0).length c227_0) ∧ w'.cell? ⟨(ad226.add ((x3_1).toNat * 2)).block, (ad226.add ((x3_1).toNat * 2)).off + 1, none⟩ = some (.slice A227_1 ((rd_T74 l0 x3_1).f1).length c227_1) ∧ w'.cell? (ad228.add ((ji10)).toNat) = some (.int .i64 (rd ((rd_T74 l0 x3_1).f0) (ji10)))) (ds := []) (mB 36 0) (by kernel_rfl) rfl rfl ⟨((HB.out.cell (World.block_lt_of_cell? w _ hw227_0)).trans hw227_0), ((HB.out.cell (World.block_lt_of_cell? w _ hw227_1)).trans hw227_1), ((HB.out.cell (World.block_lt_of_cell? w _ hw228_0)).trans hw228_0), ((HB.out.cell (World.block_lt_of_cell? w _ hw230_0)).trans hw230_0), ((HB.out.cell (World.block_lt_of_cell? w _ hw230_1)).trans hw230_1), ((HB.out.cell (World.block_lt_of_cell? w _ hw231_0)).trans hw231_0), ((HB.out.cell (World.block_lt_of_cell? w _ hw232_0)).trans hw232_0), ((HB.out.cell (World.block_lt_of_cell? w _ hw232_1)).trans hw232_1), ((HB.out.cell (World.block_lt_of_cell? w _ hw233_0)).trans hw233_0)⟩ (fun hHeld => ?_); refine with_tabW spec_WorldValid.tab7 spec_WorldValid.bits7 (fun HT_ HW_ => ?_)
               generalize wr.drew = w14 at HB HR227_0 HR227_1 HR230_0 HR230_1 HR232_0 HR232_1 hx227_0 hx227_1 hx228_0 hx230_0 hx230_1 hx231_0 hx232_0 hx232_1 hx233_0 hHeld ⊢
               refine pn 0 21 HT_.out ?_
               refine pn 1 22 HT_.out ?_
               refine pn 2 23 HT_.out ?_
               refine pn 3 24 HT_.out ?_
               refine pn 5 26 HT_.out ?_
               refine pn 8 29 HT_.out ?_
               refine pn 9 30 HT_.out ?_
               refine tk 4 25 HT_.out HW_.out hHeld ?_
               refine pn 6 27 HT_.out ?_
               refine tk 7 28 HT_.out HW_.out hHeld ?_
               refine on 10 31 HT_.out (fun K hK => ?_)
               refine gs Try.func38 #[.int .i64 (rd ((rd_T74 l0 x3_1).f0) x4_2), .int .i64 0, .int .i64 (wrap64 (x3_1 - 1))] ?_
               with_reducible refine (spec_l1In.calls (rd ((rd_T74 l0 x3_1).f0) x4_2) 0 (wrap64 (x3_1 - 1)) true _ A7.out).mono ?_
               rintro e w' ⟨rfl, ⟨nd, rfl⟩⟩
               refine ⟨_, rfl, ?_⟩
               refine hK.out _ _ ⟨((HB.out.cell (World.block_lt_of_cell? w _ hw227_0)).trans hw227_0), ((HB.out.cell (World.block_lt_of_cell? w _ hw227_1)).trans hw227_1), ((HB.out.cell (World.block_lt_of_cell? w _ hw228_0)).trans hw228_0), ((HB.out.cell (World.block_lt_of_cell? w _ hw230_0)).trans hw230_0), ((HB.out.cell (World.block_lt_of_cell? w _ hw230_1)).trans hw230_1), ((HB.out.cell (World.block_lt_of_cell? w _ hw231_0)).trans hw231_0), ((HB.out.cell (World.block_lt_of_cell? w _ hw232_0)).trans hw232_0), ((HB.out.cell (World.block_lt_of_cell? w _ hw232_1)).trans hw232_1), ((HB.out.cell (World.block_lt_of_cell? w _ hw233_0)).trans hw233_0)⟩ (fun hHeld => ?_)
               clear hK K
               refine nm (some 31) ?_
               refine pn 11 32 HT_.out ?_
               refine pn 12 33 HT_.out ?_
               refine pn 13 34 HT_.out ?_
               refine pn 14 35 HT_.out ?_
               refine pn 15 36 HT_.out ?_
               refine pn 16 37 HT_.out ?_
               refine pn 17 38 HT_.out ?_
               refine pn 18 39 HT_.out ?_
               refine pn 19 40 HT_.out ?_
               refine pn 21 42 HT_.out ?_
               refine pn 24 45 HT_.out ?_
               refine pn 25 46 HT_.out ?_
               refine pn 26 47 HT_.out ?_
               refine pn 27 48 HT_.out ?_
               refine pn 29 50 HT_.out ?_
               refine pn 30 51 HT_.out ?_
               refine tk 20 41 HT_.out HW_.out hHeld ?_
               refine pn 22 43 HT_.out ?_
               refine tk 23 44 HT_.out HW_.out hHeld ?_
               refine tk 28 49 HT_.out HW_.out hHeld ?_
               refine pn 31 52 HT_.out ?_
               refine tk 32 53 HT_.out HW_.out hHeld ?_
               refine pn 33 54 HT_.out ?_
               refine pn 34 55 HT_.out ?_
               refine pn 35 56 HT_.out ?_
               refine done_ (done_of HT_.out (by kernel_rfl)) ?_
               try go_wp2
               go_ret
               exact ⟨by first | rfl | (simp [errW_none, errW_some] <;> rfl) | (simp only [← hji10]; first | rfl | (simp [errW_none, errW_some] <;> rfl)) | (simp [*, errW_none, errW_some] <;> rfl), by exact bw HB.out⟩
              ·
               rw [if_neg c13] at H; have c13b0 : decide ((rd ((rd_T74 l0 x3_1).f0) x4_2) ≤ (rd ((rd_T74 l0 x3_1).f0) (ji10))) = false := decide_eq_false c13; clear c13
               have H' := Aside0.mk H
               clear H
               have p226 : 0 ≤ (x3_1 : Int) := of_decide_eq_true (by first | (with_reducible assumption) | assumption)
               have q226 : x3_1 < (l0.length : Int) := of_decide_eq_true (by first | (with_reducible assumption) | assumption)
               obtain ⟨ad226, A226_0, c226_0, A226_1, c226_1, e226, hx226_0, hx226_1, hl226_0, hi226_0, hl226_1, hi226_1⟩ := at_T74 HR0.out x3_1 p226 q226
               cases e226
               first | replace hx226_0 := (HB.out.cell (World.block_lt_of_cell? w _ hx226_0)).trans hx226_0 | skip
               first | replace hx226_1 := (HB.out.cell (World.block_lt_of_cell? w _ hx226_1)).trans hx226_1 | skip
               have HR226_0 := Aside0.mk hi226_0
               have HC226_0 := Aside0.mk hl226_0
               clear hi226_0 hl226_0
               have HR226_1 := Aside0.mk hi226_1
               have HC226_1 := Aside0.mk hl226_1
               clear hi226_1 hl226_1
               replace p226 := eq_true p226
               replace q226 := eq_true q226
               try go_wp2
               replace HB := Aside0.mk (below_drew1 HB.out)
               have p227 : 0 ≤ (x3_1 : Int) := of_decide_eq_true (by first | (with_reducible assumption) | assumption)
               have q227 : x3_1 < (l0.length : Int) := of_decide_eq_true (by first | (with_reducible assumption) | assumption)
               obtain ⟨ad227, A227_0, c227_0, A227_1, c227_1, e227, hx227_0, hx227_1, hl227_0, hi227_0, hl227_1, hi227_1⟩ := at_T74 HR0.out x3_1 p227 q227
               have hw227_1 := hx227_1
               have hw227_0 := hx227_0
               obtain rfl : ad226 = ad227 := (by injection e227)
               first | replace hx227_0 := (HB.out.cell (World.block_lt_of_cell? w _ hx227_0)).trans hx227_0 | skip
               first | replace hx227_1 := (HB.out.cell (World.block_lt_of_cell? w _ hx227_1)).trans hx227_1 | skip
               have HR227_0 := Aside0.mk hi227_0
               have HC227_0 := Aside0.mk hl227_0
               clear hi227_0 hl227_0
               have HR227_1 := Aside0.mk hi227_1
               have HC227_1 := Aside0.mk hl227_1
               clear hi227_1 hl227_1
               replace p227 := eq_true p227
               replace q227 := eq_true q227
               have p228 : 0 ≤ (x4_2 : Int) := of_decide_eq_true (by first | (with_reducible assumption) | assumption)
               have q228 : x4_2 < (((rd_T74 l0 x3_1).f0).length : Int) := of_decide_eq_true (by first | (with_reducible assumption) | assumption)
               obtain ⟨ad228, e228, hx228_0⟩ := Kd.at_int HR227_0.out x4_2 p228 q228
               have hw228_0 := hx228_0
               cases e228
               first | replace hx228_0 := (HB.out.cell (World.block_lt_of_cell? w _ hx228_0)).trans hx228_0 | skip
               replace p228 := eq_true p228
               replace q228 := eq_true q228
               have p230 : 0 ≤ (x3_1 : Int) := of_decide_eq_true (by first | (with_reducible assumption) | assumption)
               have q230 : x3_1 < (l0.length : Int) := of_decide_eq_true (by first | (with_reducible assumption) | assumption)
               obtain ⟨ad230, A230_0, c230_0, A230_1, c230_1, e230, hx230_0, hx230_1, hl230_0, hi230_0, hl230_1, hi230_1⟩ := at_T74 HR0.out x3_1 p230 q230
               have hw230_1 := hx230_1
               have hw230_0 := hx230_0
               obtain rfl : ad226 = ad230 := (by injection e230)
               first | replace hx230_0 := (HB.out.cell (World.block_lt_of_cell? w _ hx230_0)).trans hx230_0 | skip
               first | replace hx230_1 := (HB.out.cell (World.block_lt_of_cell? w _ hx230_1)).trans hx230_1 | skip
               have HR230_0 := Aside0.mk hi230_0
               have HC230_0 := Aside0.mk hl230_0
               clear hi230_0 hl230_0
               have HR230_1 := Aside0.mk hi230_1
               have HC230_1 := Aside0.mk hl230_1
               clear hi230_1 hl230_1
               replace p230 := eq_true p230
               replace q230 := eq_true q230
               have ea_ := Option.some.inj (hx227_0.symm.trans hx230_0)
               injection ea_ with ea_ en_ ec_
               subst ea_
               subst ec_
               clear en_
               have ea_ := Option.some.inj (hx227_1.symm.trans hx230_1)
               injection ea_ with ea_ en_ ec_
               subst ea_
               subst ec_
               clear en_
               have p231 : 0 ≤ (x4_2 : Int) := of_decide_eq_true (by first | (with_reducible assumption) | assumption)
               have q231 : x4_2 < (((rd_T74 l0 x3_1).f0).length : Int) := of_decide_eq_true (by first | (with_reducible assumption) | assumption)
               obtain ⟨ad231, e231, hx231_0⟩ := Kd.at_int HR230_0.out x4_2 p231 q231
               have hw231_0 := hx231_0
               cases e231
               first | replace hx231_0 := (HB.out.cell (World.block_lt_of_cell? w _ hx231_0)).trans hx231_0 | skip
               replace p231 := eq_true p231
               replace q231 := eq_true q231
               have p232 : 0 ≤ (x3_1 : Int) := of_decide_eq_true (by first | (with_reducible assumption) | assumption)
               have q232 : x3_1 < (l0.length : Int) := of_decide_eq_true (by first | (with_reducible assumption) | assumption)
               obtain ⟨ad232, A232_0, c232_0, A232_1, c232_1, e232, hx232_0, hx232_1, hl232_0, hi232_0, hl232_1, hi232_1⟩ := at_T74 HR0.out x3_1 p232 q232
               have hw232_1 := hx232_1
               have hw232_0 := hx232_0
               obtain rfl : ad226 = ad232 := (by injection e232)
               first | replace hx232_0 := (HB.out.cell (World.block_lt_of_cell? w _ hx232_0)).trans hx232_0 | skip
               first | replace hx232_1 := (HB.out.cell (World.block_lt_of_cell? w _ hx232_1)).trans hx232_1 | skip
               have HR232_0 := Aside0.mk hi232_0
               have HC232_0 := Aside0.mk hl232_0
               clear hi232_0 hl232_0
               have HR232_1 := Aside0.mk hi232_1
               have HC232_1 := Aside0.mk hl232_1
               clear hi232_1 hl232_1
               replace p232 := eq_true p232
               replace q232 := eq_true q232
               have ea_ := Option.some.inj (hx227_0.symm.trans hx232_0)
               injection ea_ with ea_ en_ ec_
               subst ea_
               subst ec_
               clear en_
               have ea_ := Option.some.inj (hx227_1.symm.trans hx232_1)
               injection ea_ with ea_ en_ ec_
               subst ea_
               subst ec_
               clear en_
               have p233 : 0 ≤ ((ji10) : Int) := of_decide_eq_true (by first | (with_reducible assumption) | assumption)
               have q233 : (ji10) < (((rd_T74 l0 x3_1).f0).length : Int) := of_decide_eq_true (by first | (with_reducible assumption) | assumption)
               obtain ⟨ad233, e233, hx233_0⟩ := Kd.at_int HR232_0.out (ji10) p233 q233
               have hw233_0 := hx233_0
               cases e233
               first | replace hx233_0 := (HB.out.cell (World.block_lt_of_cell? w _ hx233_0)).trans hx233_0 | skip
               replace p233 := eq_true p233
               replace q233 := eq_true q233
               refine start_ (n := 36) (S := fun w' => w'.cell? (ad226.add ((x3_1).toNat * 2)) = some (.slice (some ad228) ((rd_T74 l0 x3_1).f0).length c227_0) ∧ w'.cell? ⟨(ad226.add ((x3_1).toNat * 2)).block, (ad226.add ((x3_1).toNat * 2)).off + 1, none⟩ = some (.slice A227_1 ((rd_T74 l0 x3_1).f1).length c227_1) ∧ w'.cell? (ad228.add (x4_2).toNat) = some (.int .i64 (rd ((rd_T74 l0 x3_1).f0) x4_2)) ∧ w'.cell? (ad226.add ((x3_1).toNat * 2)) = some (.slice (some ad228) ((rd_T74 l0 x3_1).f0).length c227_0) ∧ w'.cell? ⟨(ad226.add ((x3_1).toNat * 2)).block, (ad226.add ((x3_1).toNat * 2)).off + 1, none⟩ = some (.slice A227_1 ((rd_T74 l0 x3_1).f1).length c227_1) ∧ w'.cell? (ad228.add (x4_2).toNat) = some (.int .i64 (rd ((rd_T74 l0 x3_1).f0) x4_2)) ∧ w'.cell? (ad226.add ((x3_1).toNat * 2)) = some (.slice (some ad228) ((rd_T74 l0 x3_1).f0).length c227_0) ∧ w'.cell? ⟨(ad226.add ((x3_1).toNat * 2)).block, (ad226.add ((x3_1).toNat * 2)).off + 1, none⟩ = some (.slice A227_1 ((rd_T74 l0 x3_1).f1).length c227_1) ∧ w'.cell? (ad228.add ((ji10)).toNat) = some (.int .i64 (rd ((rd_T74 l0 x3_1).f0) (ji10)))) (ds := []) (mB 36 0) (by kernel_rfl) rfl rfl ⟨((HB.out.cell (World.block_lt_of_cell? w _ hw227_0)).trans hw227_0), ((HB.out.cell (World.block_lt_of_cell? w _ hw227_1)).trans hw227_1), ((HB.out.cell (World.block_lt_of_cell? w _ hw228_0)).trans hw228_0), ((HB.out.cell (World.block_lt_of_cell? w _ hw230_0)).trans hw230_0), ((HB.out.cell (World.block_lt_of_cell? w _ hw230_1)).trans hw230_1), ((HB.out.cell (World.block_lt_of_cell? w _ hw231_0)).trans hw231_0), ((HB.out.cell (World.block_lt_of_cell? w _ hw232_0)).trans hw232_0), ((HB.out.cell (World.block_lt_of_cell? w _ hw232_1)).trans hw232_1), ((HB.out.cell (World.block_lt_of_cell? w _ hw233_0)).trans hw233_0)⟩ (fun hHeld => ?_); refine with_tabW spec_WorldValid.tab7 spec_WorldValid.bits7 (fun HT_ HW_ => ?_)
               generalize wr.drew = w15 at HB HR227_0 HR227_1 HR230_0 HR230_1 HR232_0 HR232_1 hx227_0 hx227_1 hx228_0 hx230_0 hx230_1 hx231_0 hx232_0 hx232_1 hx233_0 hHeld ⊢
               refine pn 0 21 HT_.out ?_
               refine pn 1 22 HT_.out ?_
               refine pn 2 23 HT_.out ?_
               refine pn 3 24 HT_.out ?_
               refine pn 5 26 HT_.out ?_
               refine pn 8 29 HT_.out ?_
               refine pn 9 30 HT_.out ?_
               refine tk 4 25 HT_.out HW_.out hHeld ?_
               refine pn 6 27 HT_.out ?_
               refine tk 7 28 HT_.out HW_.out hHeld ?_
               refine on 10 31 HT_.out (fun K hK => ?_)
               refine gs Try.func38 #[.int .i64 (rd ((rd_T74 l0 x3_1).f0) x4_2), .int .i64 0, .int .i64 (wrap64 (x3_1 - 1))] ?_
               with_reducible refine (spec_l1In.calls (rd ((rd_T74 l0 x3_1).f0) x4_2) 0 (wrap64 (x3_1 - 1)) true _ A7.out).mono ?_
               rintro e w' ⟨rfl, ⟨nd, rfl⟩⟩
               refine ⟨_, rfl, ?_⟩
               refine hK.out _ _ ⟨((HB.out.cell (World.block_lt_of_cell? w _ hw227_0)).trans hw227_0), ((HB.out.cell (World.block_lt_of_cell? w _ hw227_1)).trans hw227_1), ((HB.out.cell (World.block_lt_of_cell? w _ hw228_0)).trans hw228_0), ((HB.out.cell (World.block_lt_of_cell? w _ hw230_0)).trans hw230_0), ((HB.out.cell (World.block_lt_of_cell? w _ hw230_1)).trans hw230_1), ((HB.out.cell (World.block_lt_of_cell? w _ hw231_0)).trans hw231_0), ((HB.out.cell (World.block_lt_of_cell? w _ hw232_0)).trans hw232_0), ((HB.out.cell (World.block_lt_of_cell? w _ hw232_1)).trans hw232_1), ((HB.out.cell (World.block_lt_of_cell? w _ hw233_0)).trans hw233_0)⟩ (fun hHeld => ?_)
               clear hK K
               refine nm (some 31) ?_
               refine pn 11 32 HT_.out ?_
               refine pn 12 33 HT_.out ?_
               refine pn 13 34 HT_.out ?_
               refine pn 14 35 HT_.out ?_
               refine pn 15 36 HT_.out ?_
               refine pn 16 37 HT_.out ?_
               refine pn 17 38 HT_.out ?_
               refine pn 18 39 HT_.out ?_
               refine pn 19 40 HT_.out ?_
               refine pn 21 42 HT_.out ?_
               refine pn 24 45 HT_.out ?_
               refine pn 25 46 HT_.out ?_
               refine pn 26 47 HT_.out ?_
               refine pn 27 48 HT_.out ?_
               refine pn 29 50 HT_.out ?_
               refine pn 30 51 HT_.out ?_
               refine tk 20 41 HT_.out HW_.out hHeld ?_
               refine pn 22 43 HT_.out ?_
               refine tk 23 44 HT_.out HW_.out hHeld ?_
               refine tk 28 49 HT_.out HW_.out hHeld ?_
               refine pn 31 52 HT_.out ?_
               refine tk 32 53 HT_.out HW_.out hHeld ?_
               refine pn 33 54 HT_.out ?_
               refine pn 34 55 HT_.out ?_
               refine pn 35 56 HT_.out ?_
               refine done_ (done_of HT_.out (by kernel_rfl)) ?_
               try go_wp2
               go_roundg k2
               case measure => have := HK1.out; have := HK2.out; omega
               case rel => exact ⟨(wrap64 (x4_2 + 1)), (by first | rfl | (simp; done) | (simp [*]; done)), H', ⟨by have := HK1.out; have := HK2.out; omega⟩, ⟨by exact bw HB.out⟩⟩
             ·
              rw [if_neg c12] at H; exact absurd H (by simp)
            ·
             rw [if_neg c11] at H; exact absurd H (by simp)
           ·
            rw [if_neg c9] at H; have c9b0 : decide (0 < x4_2) = false := decide_eq_false c9; clear c9
            have H' := Aside0.mk H
            clear H
            have p226 : 0 ≤ (x3_1 : Int) := of_decide_eq_true (by first | (with_reducible assumption) | assumption)
            have q226 : x3_1 < (l0.length : Int) := of_decide_eq_true (by first | (with_reducible assumption) | assumption)
            obtain ⟨ad226, A226_0, c226_0, A226_1, c226_1, e226, hx226_0, hx226_1, hl226_0, hi226_0, hl226_1, hi226_1⟩ := at_T74 HR0.out x3_1 p226 q226
            cases e226
            first | replace hx226_0 := (HB.out.cell (World.block_lt_of_cell? w _ hx226_0)).trans hx226_0 | skip
            first | replace hx226_1 := (HB.out.cell (World.block_lt_of_cell? w _ hx226_1)).trans hx226_1 | skip
            have HR226_0 := Aside0.mk hi226_0
            have HC226_0 := Aside0.mk hl226_0
            clear hi226_0 hl226_0
            have HR226_1 := Aside0.mk hi226_1
            have HC226_1 := Aside0.mk hl226_1
            clear hi226_1 hl226_1
            replace p226 := eq_true p226
            replace q226 := eq_true q226
            try go_wp2
            replace HB := Aside0.mk (below_drew1 HB.out)
            have p227 : 0 ≤ (x3_1 : Int) := of_decide_eq_true (by first | (with_reducible assumption) | assumption)
            have q227 : x3_1 < (l0.length : Int) := of_decide_eq_true (by first | (with_reducible assumption) | assumption)
            obtain ⟨ad227, A227_0, c227_0, A227_1, c227_1, e227, hx227_0, hx227_1, hl227_0, hi227_0, hl227_1, hi227_1⟩ := at_T74 HR0.out x3_1 p227 q227
            have hw227_1 := hx227_1
            have hw227_0 := hx227_0
            obtain rfl : ad226 = ad227 := (by injection e227)
            first | replace hx227_0 := (HB.out.cell (World.block_lt_of_cell? w _ hx227_0)).trans hx227_0 | skip
            first | replace hx227_1 := (HB.out.cell (World.block_lt_of_cell? w _ hx227_1)).trans hx227_1 | skip
            have HR227_0 := Aside0.mk hi227_0
            have HC227_0 := Aside0.mk hl227_0
            clear hi227_0 hl227_0
            have HR227_1 := Aside0.mk hi227_1
            have HC227_1 := Aside0.mk hl227_1
            clear hi227_1 hl227_1
            replace p227 := eq_true p227
            replace q227 := eq_true q227
            have p228 : 0 ≤ (x4_2 : Int) := of_decide_eq_true (by first | (with_reducible assumption) | assumption)
            have q228 : x4_2 < (((rd_T74 l0 x3_1).f0).length : Int) := of_decide_eq_true (by first | (with_reducible assumption) | assumption)
            obtain ⟨ad228, e228, hx228_0⟩ := Kd.at_int HR227_0.out x4_2 p228 q228
            have hw228_0 := hx228_0
            cases e228
            first | replace hx228_0 := (HB.out.cell (World.block_lt_of_cell? w _ hx228_0)).trans hx228_0 | skip
            replace p228 := eq_true p228
            replace q228 := eq_true q228
            refine start_ (n := 36) (S := fun w' => w'.cell? (ad226.add ((x3_1).toNat * 2)) = some (.slice (some ad228) ((rd_T74 l0 x3_1).f0).length c227_0) ∧ w'.cell? ⟨(ad226.add ((x3_1).toNat * 2)).block, (ad226.add ((x3_1).toNat * 2)).off + 1, none⟩ = some (.slice A227_1 ((rd_T74 l0 x3_1).f1).length c227_1) ∧ w'.cell? (ad228.add (x4_2).toNat) = some (.int .i64 (rd ((rd_T74 l0 x3_1).f0) x4_2))) (ds := []) (mB 36 0) (by kernel_rfl) rfl rfl ⟨((HB.out.cell (World.block_lt_of_cell? w _ hw227_0)).trans hw227_0), ((HB.out.cell (World.block_lt_of_cell? w _ hw227_1)).trans hw227_1), ((HB.out.cell (World.block_lt_of_cell? w _ hw228_0)).trans hw228_0)⟩ (fun hHeld => ?_); refine with_tabW spec_WorldValid.tab7 spec_WorldValid.bits7 (fun HT_ HW_ => ?_)
            generalize wr.drew = w16 at HB HR227_0 HR227_1 hx227_0 hx227_1 hx228_0 hHeld ⊢
            refine pn 0 21 HT_.out ?_
            refine pn 1 22 HT_.out ?_
            refine pn 2 23 HT_.out ?_
            refine pn 3 24 HT_.out ?_
            refine pn 5 26 HT_.out ?_
            refine pn 8 29 HT_.out ?_
            refine pn 9 30 HT_.out ?_
            refine tk 4 25 HT_.out HW_.out hHeld ?_
            refine pn 6 27 HT_.out ?_
            refine tk 7 28 HT_.out HW_.out hHeld ?_
            refine on 10 31 HT_.out (fun K hK => ?_)
            refine gs Try.func38 #[.int .i64 (rd ((rd_T74 l0 x3_1).f0) x4_2), .int .i64 0, .int .i64 (wrap64 (x3_1 - 1))] ?_
            with_reducible refine (spec_l1In.calls (rd ((rd_T74 l0 x3_1).f0) x4_2) 0 (wrap64 (x3_1 - 1)) true _ A7.out).mono ?_
            rintro e w' ⟨rfl, ⟨nd, rfl⟩⟩
            refine ⟨_, rfl, ?_⟩
            refine hK.out _ _ ⟨((HB.out.cell (World.block_lt_of_cell? w _ hw227_0)).trans hw227_0), ((HB.out.cell (World.block_lt_of_cell? w _ hw227_1)).trans hw227_1), ((HB.out.cell (World.block_lt_of_cell? w _ hw228_0)).trans hw228_0)⟩ (fun hHeld => ?_)
            clear hK K
            refine nm (some 31) ?_
            refine pn 11 32 HT_.out ?_
            refine pn 12 33 HT_.out ?_
            refine pn 13 34 HT_.out ?_
            refine pn 14 35 HT_.out ?_
            refine pn 15 36 HT_.out ?_
            refine pf 16 37 HT_.out ?_
            refine pf 17 38 HT_.out ?_
            refine pf 18 39 HT_.out ?_
            refine pf 19 40 HT_.out ?_
            refine pf 20 41 HT_.out ?_
            refine pf 21 42 HT_.out ?_
            refine pf 22 43 HT_.out ?_
            refine pf 23 44 HT_.out ?_
            refine pf 24 45 HT_.out ?_
            refine pf 25 46 HT_.out ?_
            refine pf 26 47 HT_.out ?_
            refine pf 27 48 HT_.out ?_
            refine pf 28 49 HT_.out ?_
            refine pf 29 50 HT_.out ?_
            refine pf 30 51 HT_.out ?_
            refine pf 31 52 HT_.out ?_
            refine pf 32 53 HT_.out ?_
            refine pf 33 54 HT_.out ?_
            refine pn 34 55 HT_.out ?_
            refine pn 35 56 HT_.out ?_
            refine done_ (done_of HT_.out (by kernel_rfl)) ?_
            try go_wp2
            go_roundg k2
            case measure => have := HK1.out; have := HK2.out; omega
            case rel => exact ⟨(wrap64 (x4_2 + 1)), (by first | rfl | (simp; done) | (simp [*]; done)), H', ⟨by have := HK1.out; have := HK2.out; omega⟩, ⟨by exact bw HB.out⟩⟩
          ·
           replace c8 := Bool.eq_false_iff.mpr c8
           subst c8
           have H1 : (some false) = some r := by rw [if_neg (show ¬ (false = true) by decide)] at H; exact H
           clear H
           have H := H1
           clear H1
           obtain rfl := Option.some.inj H
           have p226 : 0 ≤ (x3_1 : Int) := of_decide_eq_true (by first | (with_reducible assumption) | assumption)
           have q226 : x3_1 < (l0.length : Int) := of_decide_eq_true (by first | (with_reducible assumption) | assumption)
           obtain ⟨ad226, A226_0, c226_0, A226_1, c226_1, e226, hx226_0, hx226_1, hl226_0, hi226_0, hl226_1, hi226_1⟩ := at_T74 HR0.out x3_1 p226 q226
           cases e226
           first | replace hx226_0 := (HB.out.cell (World.block_lt_of_cell? w _ hx226_0)).trans hx226_0 | skip
           first | replace hx226_1 := (HB.out.cell (World.block_lt_of_cell? w _ hx226_1)).trans hx226_1 | skip
           have HR226_0 := Aside0.mk hi226_0
           have HC226_0 := Aside0.mk hl226_0
           clear hi226_0 hl226_0
           have HR226_1 := Aside0.mk hi226_1
           have HC226_1 := Aside0.mk hl226_1
           clear hi226_1 hl226_1
           replace p226 := eq_true p226
           replace q226 := eq_true q226
           try go_wp2
           replace HB := Aside0.mk (below_drew1 HB.out)
           have p227 : 0 ≤ (x3_1 : Int) := of_decide_eq_true (by first | (with_reducible assumption) | assumption)
           have q227 : x3_1 < (l0.length : Int) := of_decide_eq_true (by first | (with_reducible assumption) | assumption)
           obtain ⟨ad227, A227_0, c227_0, A227_1, c227_1, e227, hx227_0, hx227_1, hl227_0, hi227_0, hl227_1, hi227_1⟩ := at_T74 HR0.out x3_1 p227 q227
           have hw227_1 := hx227_1
           have hw227_0 := hx227_0
           obtain rfl : ad226 = ad227 := (by injection e227)
           first | replace hx227_0 := (HB.out.cell (World.block_lt_of_cell? w _ hx227_0)).trans hx227_0 | skip
           first | replace hx227_1 := (HB.out.cell (World.block_lt_of_cell? w _ hx227_1)).trans hx227_1 | skip
           have HR227_0 := Aside0.mk hi227_0
           have HC227_0 := Aside0.mk hl227_0
           clear hi227_0 hl227_0
           have HR227_1 := Aside0.mk hi227_1
           have HC227_1 := Aside0.mk hl227_1
           clear hi227_1 hl227_1
           replace p227 := eq_true p227
           replace q227 := eq_true q227
           have p228 : 0 ≤ (x4_2 : Int) := of_decide_eq_true (by first | (with_reducible assumption) | assumption)
           have q228 : x4_2 < (((rd_T74 l0 x3_1).f0).length : Int) := of_decide_eq_true (by first | (with_reducible assumption) | assumption)
           obtain ⟨ad228, e228, hx228_0⟩ := Kd.at_int HR227_0.out x4_2 p228 q228
           have hw228_0 := hx228_0
           cases e228
           first | replace hx228_0 := (HB.out.cell (World.block_lt_of_cell? w _ hx228_0)).trans hx228_0 | skip
           replace p228 := eq_true p228
           replace q228 := eq_true q228
           refine start_ (n := 36) (S := fun w' => w'.cell? (ad226.add ((x3_1).toNat * 2)) = some (.slice (some ad228) ((rd_T74 l0 x3_1).f0).length c227_0) ∧ w'.cell? ⟨(ad226.add ((x3_1).toNat * 2)).block, (ad226.add ((x3_1).toNat * 2)).off + 1, none⟩ = some (.slice A227_1 ((rd_T74 l0 x3_1).f1).length c227_1) ∧ w'.cell? (ad228.add (x4_2).toNat) = some (.int .i64 (rd ((rd_T74 l0 x3_1).f0) x4_2))) (ds := []) (mB 36 0) (by kernel_rfl) rfl rfl ⟨((HB.out.cell (World.block_lt_of_cell? w _ hw227_0)).trans hw227_0), ((HB.out.cell (World.block_lt_of_cell? w _ hw227_1)).trans hw227_1), ((HB.out.cell (World.block_lt_of_cell? w _ hw228_0)).trans hw228_0)⟩ (fun hHeld => ?_); refine with_tabW spec_WorldValid.tab7 spec_WorldValid.bits7 (fun HT_ HW_ => ?_)
           generalize wr.drew = w17 at HB HR227_0 HR227_1 hx227_0 hx227_1 hx228_0 hHeld ⊢
           refine pn 0 21 HT_.out ?_
           refine pn 1 22 HT_.out ?_
           refine pn 2 23 HT_.out ?_
           refine pn 3 24 HT_.out ?_
           refine pn 5 26 HT_.out ?_
           refine pn 8 29 HT_.out ?_
           refine pn 9 30 HT_.out ?_
           refine tk 4 25 HT_.out HW_.out hHeld ?_
           refine pn 6 27 HT_.out ?_
           refine tk 7 28 HT_.out HW_.out hHeld ?_
           refine on 10 31 HT_.out (fun K hK => ?_)
           refine gs Try.func38 #[.int .i64 (rd ((rd_T74 l0 x3_1).f0) x4_2), .int .i64 0, .int .i64 (wrap64 (x3_1 - 1))] ?_
           with_reducible refine (spec_l1In.calls (rd ((rd_T74 l0 x3_1).f0) x4_2) 0 (wrap64 (x3_1 - 1)) false _ A7.out).mono ?_
           rintro e w' ⟨rfl, ⟨nd, rfl⟩⟩
           refine ⟨_, rfl, ?_⟩
           refine hK.out _ _ ⟨((HB.out.cell (World.block_lt_of_cell? w _ hw227_0)).trans hw227_0), ((HB.out.cell (World.block_lt_of_cell? w _ hw227_1)).trans hw227_1), ((HB.out.cell (World.block_lt_of_cell? w _ hw228_0)).trans hw228_0)⟩ (fun hHeld => ?_)
           clear hK K
           refine nm (some 31) ?_
           refine pn 11 32 HT_.out ?_
           refine pn 12 33 HT_.out ?_
           refine pf 13 34 HT_.out ?_
           refine pf 14 35 HT_.out ?_
           refine pf 15 36 HT_.out ?_
           refine pf 16 37 HT_.out ?_
           refine pf 17 38 HT_.out ?_
           refine pf 18 39 HT_.out ?_
           refine pf 19 40 HT_.out ?_
           refine pf 20 41 HT_.out ?_
           refine pf 21 42 HT_.out ?_
           refine pf 22 43 HT_.out ?_
           refine pf 23 44 HT_.out ?_
           refine pf 24 45 HT_.out ?_
           refine pf 25 46 HT_.out ?_
           refine pf 26 47 HT_.out ?_
           refine pf 27 48 HT_.out ?_
           refine pf 28 49 HT_.out ?_
           refine pf 29 50 HT_.out ?_
           refine pf 30 51 HT_.out ?_
           refine pf 31 52 HT_.out ?_
           refine pf 32 53 HT_.out ?_
           refine pf 33 54 HT_.out ?_
           refine pf 34 55 HT_.out ?_
           refine pn 35 56 HT_.out ?_
           refine done_ (done_of HT_.out (by kernel_rfl)) ?_
           try go_wp2
           go_ret
           exact ⟨by first | rfl | (simp [errW_none, errW_some] <;> rfl) | (simp [*, errW_none, errW_some] <;> rfl), by exact bw HB.out⟩
         ·
          rw [if_neg c6] at H; exact absurd H (by simp)
        ·
         rw [if_neg c5] at H; have c5b0 : decide (x4_2 < (((rd_T74 l0 x3_1).f0).length : Int)) = false := decide_eq_false c5; clear c5
         replace H := Option.bind_eq_some_iff.mp H
         obtain ⟨t235, A180, H⟩ := H
         replace H : (if t235 = true then (spec_WorldValid.l0 k2 l0 (wrap64 (x3_1 + 1))) else (some false)) = some r := H
         have A18 := Aside0.mk A180
         clear A180
         by_cases c19 : t235 = true
         ·
          subst c19
          have H1 : (spec_WorldValid.l0 k2 l0 (wrap64 (x3_1 + 1))) = some r := by rw [if_pos rfl] at H; exact H
          clear H
          have H := H1
          clear H1
          have H' := Aside0.mk H
          clear H
          have p226 : 0 ≤ (x3_1 : Int) := of_decide_eq_true (by first | (with_reducible assumption) | assumption)
          have q226 : x3_1 < (l0.length : Int) := of_decide_eq_true (by first | (with_reducible assumption) | assumption)
          obtain ⟨ad226, A226_0, c226_0, A226_1, c226_1, e226, hx226_0, hx226_1, hl226_0, hi226_0, hl226_1, hi226_1⟩ := at_T74 HR0.out x3_1 p226 q226
          cases e226
          first | replace hx226_0 := (HB.out.cell (World.block_lt_of_cell? w _ hx226_0)).trans hx226_0 | skip
          first | replace hx226_1 := (HB.out.cell (World.block_lt_of_cell? w _ hx226_1)).trans hx226_1 | skip
          have HR226_0 := Aside0.mk hi226_0
          have HC226_0 := Aside0.mk hl226_0
          clear hi226_0 hl226_0
          have HR226_1 := Aside0.mk hi226_1
          have HC226_1 := Aside0.mk hl226_1
          clear hi226_1 hl226_1
          replace p226 := eq_true p226
          replace q226 := eq_true q226
          have p234 : 0 ≤ (x3_1 : Int) := of_decide_eq_true (by first | (with_reducible assumption) | assumption)
          have q234 : x3_1 < (l0.length : Int) := of_decide_eq_true (by first | (with_reducible assumption) | assumption)
          obtain ⟨ad234, A234_0, c234_0, A234_1, c234_1, e234, hx234_0, hx234_1, hl234_0, hi234_0, hl234_1, hi234_1⟩ := at_T74 HR0.out x3_1 p234 q234
          obtain rfl : ad226 = ad234 := (by injection e234)
          first | replace hx234_0 := (HB.out.cell (World.block_lt_of_cell? w _ hx234_0)).trans hx234_0 | skip
          first | replace hx234_1 := (HB.out.cell (World.block_lt_of_cell? w _ hx234_1)).trans hx234_1 | skip
          have HR234_0 := Aside0.mk hi234_0
          have HC234_0 := Aside0.mk hl234_0
          clear hi234_0 hl234_0
          have HR234_1 := Aside0.mk hi234_1
          have HC234_1 := Aside0.mk hl234_1
          clear hi234_1 hl234_1
          replace p234 := eq_true p234
          replace q234 := eq_true q234
          have ea_ := Option.some.inj (hx226_0.symm.trans hx234_0)
          injection ea_ with ea_ en_ ec_
          subst ea_
          subst ec_
          clear en_
          have ea_ := Option.some.inj (hx226_1.symm.trans hx234_1)
          injection ea_ with ea_ en_ ec_
          subst ea_
          subst ec_
          clear en_
          go_wp2_with (first | ((with_reducible refine gate_callee (f := 45) rfl ?_); refine gl (some 64) Try.func45 #[.slice A226_1 ((rd_T74 l0 x3_1).f1).length c226_1, .int .i64 (l0.length : Int)] ?_; (with_reducible refine (spec_l2Fields.calls k2 _ _ ((rd_T74 l0 x3_1).f1) (l0.length : Int) true _ ?side1 ?side2 A18.out).mono ?_); (case side1 => repeat (first | exact (Kd.C_below HR234_1.out HB.out) | (with_reducible refine Kd.C_alloc ?_ _) | (with_reducible refine Kd.C_drewN ?_ _) | (with_reducible refine Kd.C_drew ?_))); (case side2 => exact HC234_1.out); rintro e w20 ⟨rfl, hb⟩; refine ⟨_, rfl, ?_⟩; replace HB := bS HB hb; (try clear hb); (try clear hb2); (try clear hk); (try clear hi)))
          go_roundg k2
          case measure => have := HK1.out; have := HK2.out; omega
          case rel => exact ⟨(wrap64 (x3_1 + 1)), (by first | rfl | (simp; done) | (simp [*]; done)), H', ⟨by have := HK1.out; have := HK2.out; omega⟩, ⟨by exact bw HB.out⟩⟩
         ·
          replace c19 := Bool.eq_false_iff.mpr c19
          subst c19
          have H1 : (some false) = some r := by rw [if_neg (show ¬ (false = true) by decide)] at H; exact H
          clear H
          have H := H1
          clear H1
          obtain rfl := Option.some.inj H
          have p226 : 0 ≤ (x3_1 : Int) := of_decide_eq_true (by first | (with_reducible assumption) | assumption)
          have q226 : x3_1 < (l0.length : Int) := of_decide_eq_true (by first | (with_reducible assumption) | assumption)
          obtain ⟨ad226, A226_0, c226_0, A226_1, c226_1, e226, hx226_0, hx226_1, hl226_0, hi226_0, hl226_1, hi226_1⟩ := at_T74 HR0.out x3_1 p226 q226
          cases e226
          first | replace hx226_0 := (HB.out.cell (World.block_lt_of_cell? w _ hx226_0)).trans hx226_0 | skip
          first | replace hx226_1 := (HB.out.cell (World.block_lt_of_cell? w _ hx226_1)).trans hx226_1 | skip
          have HR226_0 := Aside0.mk hi226_0
          have HC226_0 := Aside0.mk hl226_0
          clear hi226_0 hl226_0
          have HR226_1 := Aside0.mk hi226_1
          have HC226_1 := Aside0.mk hl226_1
          clear hi226_1 hl226_1
          replace p226 := eq_true p226
          replace q226 := eq_true q226
          have p234 : 0 ≤ (x3_1 : Int) := of_decide_eq_true (by first | (with_reducible assumption) | assumption)
          have q234 : x3_1 < (l0.length : Int) := of_decide_eq_true (by first | (with_reducible assumption) | assumption)
          obtain ⟨ad234, A234_0, c234_0, A234_1, c234_1, e234, hx234_0, hx234_1, hl234_0, hi234_0, hl234_1, hi234_1⟩ := at_T74 HR0.out x3_1 p234 q234
          obtain rfl : ad226 = ad234 := (by injection e234)
          first | replace hx234_0 := (HB.out.cell (World.block_lt_of_cell? w _ hx234_0)).trans hx234_0 | skip
          first | replace hx234_1 := (HB.out.cell (World.block_lt_of_cell? w _ hx234_1)).trans hx234_1 | skip
          have HR234_0 := Aside0.mk hi234_0
          have HC234_0 := Aside0.mk hl234_0
          clear hi234_0 hl234_0
          have HR234_1 := Aside0.mk hi234_1
          have HC234_1 := Aside0.mk hl234_1
          clear hi234_1 hl234_1
          replace p234 := eq_true p234
          replace q234 := eq_true q234
          have ea_ := Option.some.inj (hx226_0.symm.trans hx234_0)
          injection ea_ with ea_ en_ ec_
          subst ea_
          subst ec_
          clear en_
          have ea_ := Option.some.inj (hx226_1.symm.trans hx234_1)
          injection ea_ with ea_ en_ ec_
          subst ea_
          subst ec_
          clear en_
          go_wp2_with (first | ((with_reducible refine gate_callee (f := 45) rfl ?_); refine gl (some 64) Try.func45 #[.slice A226_1 ((rd_T74 l0 x3_1).f1).length c226_1, .int .i64 (l0.length : Int)] ?_; (with_reducible refine (spec_l2Fields.calls k2 _ _ ((rd_T74 l0 x3_1).f1) (l0.length : Int) false _ ?side1 ?side2 A18.out).mono ?_); (case side1 => repeat (first | exact (Kd.C_below HR234_1.out HB.out) | (with_reducible refine Kd.C_alloc ?_ _) | (with_reducible refine Kd.C_drewN ?_ _) | (with_reducible refine Kd.C_drew ?_))); (case side2 => exact HC234_1.out); rintro e w21 ⟨rfl, hb⟩; refine ⟨_, rfl, ?_⟩; replace HB := bS HB hb; (try clear hb); (try clear hb2); (try clear hk); (try clear hi)))
          go_ret
          exact ⟨by first | rfl | (simp [errW_none, errW_some] <;> rfl) | (simp [*, errW_none, errW_some] <;> rfl), by exact bw HB.out⟩
       ·
        rw [if_neg c4] at H; exact absurd H (by simp)
      ·
       rw [if_neg c3] at H; exact absurd H (by simp)
   ·
    rw [if_neg c2] at H; have c2b0 : decide (x3_1 < (l0.length : Int)) = false := decide_eq_false c2; clear c2
    obtain rfl := Option.some.inj H
    go_wp2
    go_ret
    exact ⟨by first | rfl | (simp [errW_none, errW_some] <;> rfl) | (simp [*, errW_none, errW_some] <;> rfl), by exact bw HB.out⟩

end Go.Proofs.Ytoipfhdlgoaldaa.P
