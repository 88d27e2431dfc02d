-- Written by a program of this session (wip/tool).
import Derived.Test.YtacpkmdnoggmoaaPx0
import Derived.Test.YtacpkmdnoggmoaaPx1050
import Derived.Test.YtacpkmdnoggmoaaPx1053
namespace Go.Proofs.Ytacpkmdnoggmoaa.P
open Go.RowKit Go.Proofs.YtacpkmdnoggmoaaW.PrintWords Go.Proofs.YtacpkmdnoggmoaaW.PrintLast Go.Proofs.YtacpkmdnoggmoaaW.PrintMore
attribute [local go_sem] max2_int min2_int max_two min_two max_three min_three max_four min_four   -- for this text's walks alone
set_option linter.unusedVariables false
set_option linter.unusedSimpArgs false

/-! ### spec_WorldValid: function 42 -/
mutual
def spec_WorldValid.l0 : Nat → List (S72) → Int → Option (Bool)
 | 0, _, _ => none
 | k + 1, x0, x3 => if x3 < (x0.length : Int) then (spec_WorldValid.l1 k x0 x3 0) else (some (decide ((x0.length : Int) ≤ 7)))
def spec_WorldValid.l1 : Nat → List (S72) → Int → Int → Option (Bool)
 | 0, _, _, _ => none
 | k + 1, x0, x3, x4 => if 0 ≤ x3 then (if x3 < (x0.length : Int) then (if x4 < (((rd_T72 x0 x3).f0).length : Int) then (if 0 ≤ x4 then ((spec_l1In.f (rd ((rd_T72 x0 x3).f0) x4) 0 (wrap64 (x3 - 1))).bind fun t122 => (if t122 = true then (if x4 > 0 then (if 0 ≤ (wrap64 (x4 - 1)) then (if (wrap64 (x4 - 1)) < (((rd_T72 x0 x3).f0).length : Int) then (if (rd ((rd_T72 x0 x3).f0) x4) ≤ (rd ((rd_T72 x0 x3).f0) (wrap64 (x4 - 1))) then (some false) else (spec_WorldValid.l1 k x0 x3 (wrap64 (x4 + 1)))) else (none)) else (none)) else (spec_WorldValid.l1 k x0 x3 (wrap64 (x4 + 1)))) else (some false))) else (none)) else ((spec_l2Fields.f k ((rd_T72 x0 x3).f1) (x0.length : Int)).bind fun t128 => (if t128 = true then (spec_WorldValid.l0 k x0 (wrap64 (x3 + 1))) else (some false)))) else (none)) else (none)
end
def spec_WorldValid.f (k : Nat) (l0 : List (S72)) : Option (Bool) := spec_WorldValid.l0 k l0 0
theorem spec_WorldValid.mono_l : ∀ k, (∀ y0 y1, LeO (spec_WorldValid.l0 k y0 y1) (spec_WorldValid.l0 (k + 1) y0 y1)) ∧ (∀ y0 y1 y2, LeO (spec_WorldValid.l1 k y0 y1 y2) (spec_WorldValid.l1 (k + 1) y0 y1 y2))
 | 0 => ⟨fun _ _ r h => by simp [spec_WorldValid.l0] at h, fun _ _ _ r h => by simp [spec_WorldValid.l1] at h⟩
 | k + 1 => by
  obtain ⟨ih0, ih1⟩ := spec_WorldValid.mono_l k
  refine ⟨?_, ?_⟩
  ·
   intro y0 y1
   unfold spec_WorldValid.l0
   repeat' first
   | (with_reducible exact ih0 _ _)
   | (with_reducible exact ih1 _ _ _)
   | (with_reducible exact spec_l2Fields.mono _ _ _)
   | (with_reducible exact LeO.refl _)
   | (with_reducible exact LeO.none _)
   | (with_reducible refine LeO.ite ?_ ?_)
   | (with_reducible refine LeO.bind ?_ (fun _ => ?_))
   | exact ih0 _ _
   | exact ih1 _ _ _
   | exact spec_l2Fields.mono _ _ _
   | exact LeO.none _
   | refine LeO.ite ?_ ?_
   | refine LeO.bind ?_ (fun _ => ?_)
  ·
   intro y0 y1 y2
   unfold spec_WorldValid.l1
   repeat' first
   | (with_reducible exact ih0 _ _)
   | (with_reducible exact ih1 _ _ _)
   | (with_reducible exact spec_l2Fields.mono _ _ _)
   | (with_reducible exact LeO.refl _)
   | (with_reducible exact LeO.none _)
   | (with_reducible refine LeO.ite ?_ ?_)
   | (with_reducible refine LeO.bind ?_ (fun _ => ?_))
   | exact ih0 _ _
   | exact ih1 _ _ _
   | exact spec_l2Fields.mono _ _ _
   | exact LeO.none _
   | refine LeO.ite ?_ ?_
   | refine LeO.bind ?_ (fun _ => ?_)
theorem spec_WorldValid.mono : ∀ a0 k, LeO (spec_WorldValid.f k a0) (spec_WorldValid.f (k + 1) a0) := by
 intro a0 k
 obtain ⟨ih0, ih1⟩ := spec_WorldValid.mono_l k
 unfold spec_WorldValid.f
 repeat' first
   | (with_reducible exact ih0 _ _)
   | (with_reducible exact ih1 _ _ _)
   | (with_reducible exact spec_l2Fields.mono _ _ _)
   | (with_reducible exact LeO.refl _)
   | (with_reducible exact LeO.none _)
   | (with_reducible refine LeO.ite ?_ ?_)
   | (with_reducible refine LeO.bind ?_ (fun _ => ?_))
   | exact ih0 _ _
   | exact ih1 _ _ _
   | exact spec_l2Fields.mono _ _ _
   | exact LeO.none _
   | refine LeO.ite ?_ ?_
   | refine LeO.bind ?_ (fun _ => ?_)
def spec_WorldValid.T7 : Bool × List (List Nat × List Nat) := (true, [([], []), ([], []), ([0, 1], [0, 1]), ([2], [2]), ([3], [3]), ([], []), ([4, 5], [4, 5]), ([6], [6]), ([], []), ([8], [8]), ([7, 9], [7, 9]), ([10], [10]), ([11, 10], [11]), ([12], [12]), ([13, 12], [12, 13]), ([14, 12, 12], [12, 14]), ([15], [15]), ([15], [15]), ([16, 17, 15], [15, 16, 17]), ([18, 15], [15, 18]), ([19, 15], [15, 19]), ([15], [15]), ([20, 21, 15], [15, 20, 21]), ([22, 15], [15, 22]), ([15], [15]), ([15], [15]), ([24, 25, 15], [15, 24, 25]), ([26, 15], [15, 26]), ([27, 15], [15, 27]), ([15], [15]), ([29, 15], [15, 29]), ([28, 30, 15], [15, 28, 30]), ([31, 15], [15, 31]), ([23, 32, 15], [15, 23, 32]), ([15, 33, 12], [12, 15, 33]), ([12, 34], [12, 34])])
def spec_WorldValid.B7 : List Nat := [0, 0, 3, 7, 15, 0, 63, 127, 0, 256, 1023, 2047, 4095, 8191, 16383, 32767, 65535, 65535, 262143, 524287, 1048575, 65535, 4194303, 8388607, 65535, 65535, 50397183, 117506047, 251723775, 65535, 536936447, 2130771967, 4278255615, 8589934591, 17179869183, 34359738367]
theorem spec_WorldValid.tab7 : rtab .any (opsOf Try.f42 7) = spec_WorldValid.T7 := by kernel_rfl
theorem spec_WorldValid.bits7 : waitsOk spec_WorldValid.T7.2 spec_WorldValid.B7 = true := by kernel_rfl
set_option maxHeartbeats 8000000 in
set_option maxRecDepth 100000 in
theorem spec_WorldValid.calls (k : Nat) (A0 : Option Addr) (c0 : Nat) (l0 : List (S72)) (r : Bool) (w : World) (hr0 : Kd.C k72 w A0 l0.length l0) (hc0 : l0.length ≤ c0) (h : spec_WorldValid.f k l0 = some r) :
  Calls Try.prog 42 #[.slice A0 l0.length c0] w fun e w' => e = .returned (.bool r) ∧ Below w.heap.size w w' := by
 have HR0 := Aside0.mk hr0
 have HC0 := Aside0.mk hc0
 clear hr0 hc0
 have HB := Aside0.mk (Below.refl w.heap.size w)
 have H : (spec_WorldValid.l0 k l0 0) = some r := h
 clear h
 have H' := Aside0.mk H
 clear H
 go_enter Try.func42, Try.ntmps42
 go_wp2
 go_loopg [3] k (fun kq v3 w' => ∃ (x3_1 : Int), v3 = .int .i64 x3_1 ∧ Aside0 (spec_WorldValid.l0 kq l0 x3_1 = some r) ∧ Aside0 (kq ≤ k) ∧ Aside0 (Below w.heap.size w w'))
 case atStart => exact ⟨(0), (by first | rfl | (simp; done) | (simp [*]; done)), H', ⟨Nat.le_refl _⟩, ⟨by exact bw HB.out⟩⟩
 case round =>
  clear H'
  obtain ⟨x3_1, rfl, HA, HK1, HB⟩ := hrel
  cases gk with
  | zero => exact absurd HA.out (by simp [spec_WorldValid.l0])
  | succ k1 =>
   have H := HA.out
   clear HA
   simp only [spec_WorldValid.l0] at H
   by_cases c2 : x3_1 < (l0.length : Int)
   ·
    rw [if_pos c2] at H; have c2b0 : decide (x3_1 < (l0.length : Int)) = true := decide_eq_true c2; clear c2
    have H' := Aside0.mk H
    clear H
    go_wp2
    go_loopg [4] k1 (fun kq v4 w' => ∃ (x4_2 : Int), v4 = .int .i64 x4_2 ∧ Aside0 (spec_WorldValid.l1 kq l0 x3_1 x4_2 = some r) ∧ Aside0 (kq ≤ k1) ∧ Aside0 (Below w.heap.size w w'))
    case atStart => exact ⟨(0), (by first | rfl | (simp; done) | (simp [*]; done)), H', ⟨Nat.le_refl _⟩, ⟨by exact bw HB.out⟩⟩
    case round =>
     clear H'
     try clear c2
     try clear c2b0
     try clear p2
     obtain ⟨x4_2, rfl, HA, HK2, HB⟩ := hrel
     cases gk with
     | zero => exact absurd HA.out (by simp [spec_WorldValid.l1])
     | succ k2 =>
      have H := HA.out
      clear HA
      simp only [spec_WorldValid.l1] at H
      by_cases c3 : 0 ≤ x3_1
      ·
       rw [if_pos c3] at H; have c3b0 : decide (0 ≤ x3_1) = true := decide_eq_true c3; clear c3
       by_cases c4 : x3_1 < (l0.length : Int)
       ·
        rw [if_pos c4] at H; have c4b0 : decide (x3_1 < (l0.length : Int)) = true := decide_eq_true c4; clear c4
        by_cases c5 : x4_2 < (((rd_T72 l0 x3_1).f0).length : Int)
        ·
         rw [if_pos c5] at H; have c5b0 : decide (x4_2 < (((rd_T72 l0 x3_1).f0).length : Int)) = true := decide_eq_true c5; clear c5
         by_cases c6 : 0 ≤ x4_2
         ·
          rw [if_pos c6] at H; have c6b0 : decide (0 ≤ x4_2) = true := decide_eq_true c6; clear c6
          replace H := Option.bind_eq_some_iff.mp H
          obtain ⟨t122, A70, H⟩ := H
          replace H : (if t122 = true then (if x4_2 > 0 then (if 0 ≤ (wrap64 (x4_2 - 1)) then (if (wrap64 (x4_2 - 1)) < (((rd_T72 l0 x3_1).f0).length : Int) then (if (rd ((rd_T72 l0 x3_1).f0) x4_2) ≤ (rd ((rd_T72 l0 x3_1).f0) (wrap64 (x4_2 - 1))) then (some false) else (spec_WorldValid.l1 k2 l0 x3_1 (wrap64 (x4_2 + 1)))) else (none)) else (none)) else (spec_WorldValid.l1 k2 l0 x3_1 (wrap64 (x4_2 + 1)))) else (some false)) = some r := H
          have A7 := Aside0.mk A70
          clear A70
          by_cases c8 : t122 = true
          ·
           subst c8
           have H1 : (if x4_2 > 0 then (if 0 ≤ (wrap64 (x4_2 - 1)) then (if (wrap64 (x4_2 - 1)) < (((rd_T72 l0 x3_1).f0).length : Int) then (if (rd ((rd_T72 l0 x3_1).f0) x4_2) ≤ (rd ((rd_T72 l0 x3_1).f0) (wrap64 (x4_2 - 1))) then (some false) else (spec_WorldValid.l1 k2 l0 x3_1 (wrap64 (x4_2 + 1)))) else (none)) else (none)) else (spec_WorldValid.l1 k2 l0 x3_1 (wrap64 (x4_2 + 1)))) = some r := by rw [if_pos rfl] at H; exact H
           clear H
           have H := H1
           clear H1
           by_cases c9 : x4_2 > 0
           ·
            rw [if_pos c9] at H; have c9b0 : decide (0 < x4_2) = true := decide_eq_true c9; clear c9
            obtain ⟨ji10, hji10⟩ : ∃ j_ : Int, (wrap64 (x4_2 - 1)) = j_ := ⟨_, rfl⟩
            replace H : (if 0 ≤ (ji10) then (if (ji10) < (((rd_T72 l0 x3_1).f0).length : Int) then (if (rd ((rd_T72 l0 x3_1).f0) x4_2) ≤ (rd ((rd_T72 l0 x3_1).f0) (ji10)) then (some false) else (spec_WorldValid.l1 k2 l0 x3_1 (wrap64 (x4_2 + 1)))) else (none)) else (none)) = some r := by first | (rw [hji10] at H; exact H) | (simp only [hji10] at H ⊢; exact H)
            (try rw [hji10] at A7)
            have hji10w : (IntKind.i64.wrap (x4_2 - 1)) = ji10 := (i64_w _).trans hji10
            by_cases c11 : 0 ≤ (ji10)
            ·
             rw [if_pos c11] at H; have c11b0 : decide (0 ≤ (ji10)) = true := decide_eq_true c11; clear c11
             by_cases c12 : (ji10) < (((rd_T72 l0 x3_1).f0).length : Int)
             ·
              rw [if_pos c12] at H; have c12b0 : decide ((ji10) < (((rd_T72 l0 x3_1).f0).length : Int)) = true := decide_eq_true c12; clear c12
              by_cases c13 : (rd ((rd_T72 l0 x3_1).f0) x4_2) ≤ (rd ((rd_T72 l0 x3_1).f0) (ji10))
              ·
               rw [if_pos c13] at H; have c13b0 : decide ((rd ((rd_T72 l0 x3_1).f0) x4_2) ≤ (rd ((rd_T72 l0 x3_1).f0) (ji10))) = true := decide_eq_true c13; clear c13
               obtain rfl := Option.some.inj H
               have p119 : 0 ≤ (x3_1 : Int) := of_decide_eq_true (by first | (with_reducible assumption) | assumption)
               have q119 : x3_1 < (l0.length : Int) := of_decide_eq_true (by first | (with_reducible assumption) | assumption)
               obtain ⟨ad119, A119_0, c119_0, A119_1, c119_1, e119, hx119_0, hx119_1, hl119_0, hi119_0, hl119_1, hi119_1⟩ := at_T72 HR0.out x3_1 p119 q119
               cases e119
               first | replace hx119_0 := (HB.out.cell (World.block_lt_of_cell? w _ hx119_0)).trans hx119_0 | skip
               first | replace hx119_1 := (HB.out.cell (World.block_lt_of_cell? w _ hx119_1)).trans hx119_1 | skip
               have HR119_0 := Aside0.mk hi119_0
               have HC119_0 := Aside0.mk hl119_0
               clear hi119_0 hl119_0
               have HR119_1 := Aside0.mk hi119_1
               have HC119_1 := Aside0.mk hl119_1
               clear hi119_1 hl119_1
               replace p119 := eq_true p119
               replace q119 := eq_true q119
               try go_wp2
               replace HB := Aside0.mk (below_drew1 HB.out)
               have p120 : 0 ≤ (x3_1 : Int) := of_decide_eq_true (by first | (with_reducible assumption) | assumption)
               have q120 : x3_1 < (l0.length : Int) := of_decide_eq_true (by first | (with_reducible assumption) | assumption)
               obtain ⟨ad120, A120_0, c120_0, A120_1, c120_1, e120, hx120_0, hx120_1, hl120_0, hi120_0, hl120_1, hi120_1⟩ := at_T72 HR0.out x3_1 p120 q120
               have hw120_1 := hx120_1
               have hw120_0 := hx120_0
               obtain rfl : ad119 = ad120 := (by injection e120)
               first | replace hx120_0 := (HB.out.cell (World.block_lt_of_cell? w _ hx120_0)).trans hx120_0 | skip
               first | replace hx120_1 := (HB.out.cell (World.block_lt_of_cell? w _ hx120_1)).trans hx120_1 | skip
               have HR120_0 := Aside0.mk hi120_0
               have HC120_0 := Aside0.mk hl120_0
               clear hi120_0 hl120_0
               have HR120_1 := Aside0.mk hi120_1
               have HC120_1 := Aside0.mk hl120_1
               clear hi120_1 hl120_1
               replace p120 := eq_true p120
               replace q120 := eq_true q120
               have p121 : 0 ≤ (x4_2 : Int) := of_decide_eq_true (by first | (with_reducible assumption) | assumption)
               have q121 : x4_2 < (((rd_T72 l0 x3_1).f0).length : Int) := of_decide_eq_true (by first | (with_reducible assumption) | assumption)
               obtain ⟨ad121, e121, hx121_0⟩ := Kd.at_int HR120_0.out x4_2 p121 q121
               have hw121_0 := hx121_0
               cases e121
               first | replace hx121_0 := (HB.out.cell (World.block_lt_of_cell? w _ hx121_0)).trans hx121_0 | skip
               replace p121 := eq_true p121
               replace q121 := eq_true q121
               have p123 : 0 ≤ (x3_1 : Int) := of_decide_eq_true (by first | (with_reducible assumption) | assumption)
               have q123 : x3_1 < (l0.length : Int) := of_decide_eq_true (by first | (with_reducible assumption) | assumption)
               obtain ⟨ad123, A123_0, c123_0, A123_1, c123_1, e123, hx123_0, hx123_1, hl123_0, hi123_0, hl123_1, hi123_1⟩ := at_T72 HR0.out x3_1 p123 q123
               have hw123_1 := hx123_1
               have hw123_0 := hx123_0
               obtain rfl : ad119 = ad123 := (by injection e123)
               first | replace hx123_0 := (HB.out.cell (World.block_lt_of_cell? w _ hx123_0)).trans hx123_0 | skip
               first | replace hx123_1 := (HB.out.cell (World.block_lt_of_cell? w _ hx123_1)).trans hx123_1 | skip
               have HR123_0 := Aside0.mk hi123_0
               have HC123_0 := Aside0.mk hl123_0
               clear hi123_0 hl123_0
               have HR123_1 := Aside0.mk hi123_1
               have HC123_1 := Aside0.mk hl123_1
               clear hi123_1 hl123_1
               replace p123 := eq_true p123
               replace q123 := eq_true q123
               have ea_ := Option.some.inj (hx120_0.symm.trans hx123_0)
               injection ea_ with ea_ en_ ec_
               subst ea_
               subst ec_
               clear en_
               have ea_ := Option.some.inj (hx120_1.symm.trans hx123_1)
               injection ea_ with ea_ en_ ec_
               subst ea_
               subst ec_
               clear en_
               have p124 : 0 ≤ (x4_2 : Int) := of_decide_eq_true (by first | (with_reducible assumption) | assumption)
               have q124 : x4_2 < (((rd_T72 l0 x3_1).f0).length : Int) := of_decide_eq_true (by first | (with_reducible assumption) | assumption)
               obtain ⟨ad124, e124, hx124_0⟩ := Kd.at_int HR123_0.out x4_2 p124 q124
               have hw124_0 := hx124_0
               cases e124
               first | replace hx124_0 := (HB.out.cell (World.block_lt_of_cell? w _ hx124_0)).trans hx124_0 | skip
               replace p124 := eq_true p124
               replace q124 := eq_true q124
               have p125 : 0 ≤ (x3_1 : Int) := of_decide_eq_true (by first | (with_reducible assumption) | assumption)
               have q125 : x3_1 < (l0.length : Int) := of_decide_eq_true (by first | (with_reducible assumption) | assumption)
               obtain ⟨ad125, A125_0, c125_0, A125_1, c125_1, e125, hx125_0, hx125_1, hl125_0, hi125_0, hl125_1, hi125_1⟩ := at_T72 HR0.out x3_1 p125 q125
               have hw125_1 := hx125_1
               have hw125_0 := hx125_0
               obtain rfl : ad119 = ad125 := (by injection e125)
               first | replace hx125_0 := (HB.out.cell (World.block_lt_of_cell? w _ hx125_0)).trans hx125_0 | skip
               first | replace hx125_1 := (HB.out.cell (World.block_lt_of_cell? w _ hx125_1)).trans hx125_1 | skip
               have HR125_0 := Aside0.mk hi125_0
               have HC125_0 := Aside0.mk hl125_0
               clear hi125_0 hl125_0
               have HR125_1 := Aside0.mk hi125_1
               have HC125_1 := Aside0.mk hl125_1
               clear hi125_1 hl125_1
               replace p125 := eq_true p125
               replace q125 := eq_true q125
               have ea_ := Option.some.inj (hx120_0.symm.trans hx125_0)
               injection ea_ with ea_ en_ ec_
               subst ea_
               subst ec_
               clear en_
               have ea_ := Option.some.inj (hx120_1.symm.trans hx125_1)
               injection ea_ with ea_ en_ ec_
               subst ea_
               subst ec_
               clear en_
               have p126 : 0 ≤ ((ji10) : Int) := of_decide_eq_true (by first | (with_reducible assumption) | assumption)
               have q126 : (ji10) < (((rd_T72 l0 x3_1).f0).length : Int) := of_decide_eq_true (by first | (with_reducible assumption) | assumption)
               obtain ⟨ad126, e126, hx126_0⟩ := Kd.at_int HR125_0.out (ji10) p126 q126
               have hw126_0 := hx126_0
               cases e126
               first | replace hx126_0 := (HB.out.cell (World.block_lt_of_cell? w _ hx126_0)).trans hx126_0 | skip
               replace p126 := eq_true p126
               replace q126 := eq_true q126
               refine start_ (n := 36) (S := fun w' => w'.cell? (ad119.add ((x3_1).toNat * 2)) = some (.slice (some ad121) ((rd_T72 l0 x3_1).f0).length c120_0) ∧ w'.cell? ⟨(ad119.add ((x3_1).toNat * 2)).block, (ad119.add ((x3_1).toNat * 2)).off + 1, none⟩ = some (.slice A120_1 ((rd_T72 l0 x3_1).f1).length c120_1) ∧ w'.cell? (ad121.add (x4_2).toNat) = some (.int .i64 (rd ((rd_T72 l0 x3_1).f0) x4_2)) ∧ w'.cell? (ad119.add ((x3_1).toNat * 2)) = some (.slice (some ad121) ((rd_T72 l0 x3_1).f0).length c120_0) ∧ w'.cell? ⟨(ad119.add ((x3_1).toNat * 2)).block, (ad119.add ((x3_1).toNat * 2)).off + 1, none⟩ = some (.slice A120_1 ((rd_T72 l0 x3_1).f1).length c120_1) ∧ w'.cell? (ad121.add (x4_2).toNat) = some (.int .i64 (rd ((rd_T72 l0 x3_1).f0) x4_2)) ∧ w'.cell? (ad119.add ((x3_1).toNat * 2)) = some (.slice (some ad121) ((rd_T72 l0 x3_1).f0).length c120_0) ∧ w'.cell? ⟨(ad119.add ((x3_1).toNat * 2)).block, (ad119.add ((x3_1).toNat * 2)).off + 1, none⟩ = some (.slice A120_1 ((rd_T72 l0 x3_1).f1).length c120_1) ∧ w'.cell? (ad121.add ((ji10)).toNat) = some (.int .i64 (rd ((rd_T72 l0 x3_1).f0) (ji10)))) (ds := []) (mB 36 0) (by kernel_rfl) rfl rfl ⟨((HB.out.cell (World.block_lt_of_cell? w _ hw120_0)).trans hw120_0), ((HB.out.cell (World.block_lt_of_cell? w _ hw120_1)).trans hw120_1), ((HB.out.cell (World.block_lt_of_cell? w _ hw121_0)).trans hw121_0), ((HB.out.cell (World.block_lt_of_cell? w _ hw123_0)).trans hw123_0), ((HB.out.cell (World.block_lt_of_cell? w _ hw123_1)).trans hw123_1), ((HB.out.cell (World.block_lt_of_cell? w _ hw124_0)).trans hw124_0), ((HB.out.cell (World.block_lt_of_cell? w _ hw125_0)).trans hw125_0), ((HB.out.cell (World.block_lt_of_cell? w _ hw125_1)).trans hw125_1), ((HB.out.cell (World.block_lt_of_cell? w _ hw126_0)).trans hw126_0)⟩ (fun hHeld => ?_); refine with_tabW spec_WorldValid.tab7 spec_WorldValid.bits7 (fun HT_ HW_ => ?_)
               generalize wr.drew = w14 at HB HR120_0 HR120_1 HR123_0 HR123_1 HR125_0 HR125_1 hx120_0 hx120_1 hx121_0 hx123_0 hx123_1 hx124_0 hx125_0 hx125_1 hx126_0 hHeld ⊢
               refine pn 0 21 HT_.out ?_
               refine pn 1 22 HT_.out ?_
               refine pn 2 23 HT_.out ?_
               refine pn 3 24 HT_.out ?_
               refine pn 5 26 HT_.out ?_
               refine pn 8 29 HT_.out ?_
               refine pn 9 30 HT_.out ?_
               refine tk 4 25 HT_.out HW_.out hHeld ?_
               refine pn 6 27 HT_.out ?_
               refine tk 7 28 HT_.out HW_.out hHeld ?_
               refine on 10 31 HT_.out (fun K hK => ?_)
               refine gs Try.func43 #[.int .i64 (rd ((rd_T72 l0 x3_1).f0) x4_2), .int .i64 0, .int .i64 (wrap64 (x3_1 - 1))] ?_
               with_reducible refine (spec_l1In.calls (rd ((rd_T72 l0 x3_1).f0) x4_2) 0 (wrap64 (x3_1 - 1)) true _ A7.out).mono ?_
               rintro e w' ⟨rfl, ⟨nd, rfl⟩⟩
               refine ⟨_, rfl, ?_⟩
               refine hK.out _ _ ⟨((HB.out.cell (World.block_lt_of_cell? w _ hw120_0)).trans hw120_0), ((HB.out.cell (World.block_lt_of_cell? w _ hw120_1)).trans hw120_1), ((HB.out.cell (World.block_lt_of_cell? w _ hw121_0)).trans hw121_0), ((HB.out.cell (World.block_lt_of_cell? w _ hw123_0)).trans hw123_0), ((HB.out.cell (World.block_lt_of_cell? w _ hw123_1)).trans hw123_1), ((HB.out.cell (World.block_lt_of_cell? w _ hw124_0)).trans hw124_0), ((HB.out.cell (World.block_lt_of_cell? w _ hw125_0)).trans hw125_0), ((HB.out.cell (World.block_lt_of_cell? w _ hw125_1)).trans hw125_1), ((HB.out.cell (World.block_lt_of_cell? w _ hw126_0)).trans hw126_0)⟩ (fun hHeld => ?_)
               clear hK K
               refine nm (some 31) ?_
               refine pn 11 32 HT_.out ?_
               refine pn 12 33 HT_.out ?_
               refine pn 13 34 HT_.out ?_
               refine pn 14 35 HT_.out ?_
               refine pn 15 36 HT_.out ?_
               refine pn 16 37 HT_.out ?_
               refine pn 17 38 HT_.out ?_
               refine pn 18 39 HT_.out ?_
               refine pn 19 40 HT_.out ?_
               refine pn 21 42 HT_.out ?_
               refine pn 24 45 HT_.out ?_
               refine pn 25 46 HT_.out ?_
               refine pn 26 47 HT_.out ?_
               refine pn 27 48 HT_.out ?_
               refine pn 29 50 HT_.out ?_
               refine pn 30 51 HT_.out ?_
               refine tk 20 41 HT_.out HW_.out hHeld ?_
               refine pn 22 43 HT_.out ?_
               refine tk 23 44 HT_.out HW_.out hHeld ?_
               refine tk 28 49 HT_.out HW_.out hHeld ?_
               refine pn 31 52 HT_.out ?_
               refine tk 32 53 HT_.out HW_.out hHeld ?_
               refine pn 33 54 HT_.out ?_
               refine pn 34 55 HT_.out ?_
               refine pn 35 56 HT_.out ?_
               refine done_ (done_of HT_.out (by kernel_rfl)) ?_
               try go_wp2
               go_ret
               exact ⟨by first | rfl | (simp [errW_none, errW_some] <;> rfl) | (simp only [← hji10]; first | rfl | (simp [errW_none, errW_some] <;> rfl)) | (simp [*, errW_none, errW_some] <;> rfl), by exact bw HB.out⟩
              ·
               rw [if_neg c13] at H; have c13b0 : decide ((rd ((rd_T72 l0 x3_1).f0) x4_2) ≤ (rd ((rd_T72 l0 x3_1).f0) (ji10))) = false := decide_eq_false c13; clear c13
               have H' := Aside0.mk H
               clear H
               have p119 : 0 ≤ (x3_1 : Int) := of_decide_eq_true (by first | (with_reducible assumption) | assumption)
               have q119 : x3_1 < (l0.length : Int) := of_decide_eq_true (by first | (with_reducible assumption) | assumption)
               obtain ⟨ad119, A119_0, c119_0, A119_1, c119_1, e119, hx119_0, hx119_1, hl119_0, hi119_0, hl119_1, hi119_1⟩ := at_T72 HR0.out x3_1 p119 q119
               cases e119
               first | replace hx119_0 := (HB.out.cell (World.block_lt_of_cell? w _ hx119_0)).trans hx119_0 | skip
               first | replace hx119_1 := (HB.out.cell (World.block_lt_of_cell? w _ hx119_1)).trans hx119_1 | skip
               have HR119_0 := Aside0.mk hi119_0
               have HC119_0 := Aside0.mk hl119_0
               clear hi119_0 hl119_0
               have HR119_1 := Aside0.mk hi119_1
               have HC119_1 := Aside0.mk hl119_1
               clear hi119_1 hl119_1
               replace p119 := eq_true p119
               replace q119 := eq_true q119
               try go_wp2
               replace HB := Aside0.mk (below_drew1 HB.out)
               have p120 : 0 ≤ (x3_1 : Int) := of_decide_eq_true (by first | (with_reducible assumption) | assumption)
               have q120 : x3_1 < (l0.length : Int) := of_decide_eq_true (by first | (with_reducible assumption) | assumption)
               obtain ⟨ad120, A120_0, c120_0, A120_1, c120_1, e120, hx120_0, hx120_1, hl120_0, hi120_0, hl120_1, hi120_1⟩ := at_T72 HR0.out x3_1 p120 q120
               have hw120_1 := hx120_1
               have hw120_0 := hx120_0
               obtain rfl : ad119 = ad120 := (by injection e120)
               first | replace hx120_0 := (HB.out.cell (World.block_lt_of_cell? w _ hx120_0)).trans hx120_0 | skip
               first | replace hx120_1 := (HB.out.cell (World.block_lt_of_cell? w _ hx120_1)).trans hx120_1 | skip
               have HR120_0 := Aside0.mk hi120_0
               have HC120_0 := Aside0.mk hl120_0
               clear hi120_0 hl120_0
               have HR120_1 := Aside0.mk hi120_1
               have HC120_1 := Aside0.mk hl120_1
               clear hi120_1 hl120_1
               replace p120 := eq_true p120
               replace q120 := eq_true q120
               have p121 : 0 ≤ (x4_2 : Int) := of_decide_eq_true (by first | (with_reducible assumption) | assumption)
               have q121 : x4_2 < (((rd_T72 l0 x3_1).f0).length : Int) := of_decide_eq_true (by first | (with_reducible assumption) | assumption)
               obtain ⟨ad121, e121, hx121_0⟩ := Kd.at_int HR120_0.out x4_2 p121 q121
               have hw121_0 := hx121_0
               cases e121
               first | replace hx121_0 := (HB.out.cell (World.block_lt_of_cell? w _ hx121_0)).trans hx121_0 | skip
               replace p121 := eq_true p121
               replace q121 := eq_true q121
               have p123 : 0 ≤ (x3_1 : Int) := of_decide_eq_true (by first | (with_reducible assumption) | assumption)
               have q123 : x3_1 < (l0.length : Int) := of_decide_eq_true (by first | (with_reducible assumption) | assumption)
               obtain ⟨ad123, A123_0, c123_0, A123_1, c123_1, e123, hx123_0, hx123_1, hl123_0, hi123_0, hl123_1, hi123_1⟩ := at_T72 HR0.out x3_1 p123 q123
               have hw123_1 := hx123_1
               have hw123_0 := hx123_0
               obtain rfl : ad119 = ad123 := (by injection e123)
               first | replace hx123_0 := (HB.out.cell (World.block_lt_of_cell? w _ hx123_0)).trans hx123_0 | skip
               first | replace hx123_1 := (HB.out.cell (World.block_lt_of_cell? w _ hx123_1)).trans hx123_1 | skip
               have HR123_0 := Aside0.mk hi123_0
               have HC123_0 := Aside0.mk hl123_0
               clear hi123_0 hl123_0
               have HR123_1 := Aside0.mk hi123_1
               have HC123_1 := Aside0.mk hl123_1
               clear hi123_1 hl123_1
               replace p123 := eq_true p123
               replace q123 := eq_true q123
               have ea_ := Option.some.inj (hx120_0.symm.trans hx123_0)
               injection ea_ with ea_ en_ ec_
               subst ea_
               subst ec_
               clear en_
               have ea_ := Option.some.inj (hx120_1.symm.trans hx123_1)
               injection ea_ with ea_ en_ ec_
               subst ea_
               subst ec_
               clear en_
               have p124 : 0 ≤ (x4_2 : Int) := of_decide_eq_true (by first | (with_reducible assumption) | assumption)
               have q124 : x4_2 < (((rd_T72 l0 x3_1).f0).length : Int) := of_decide_eq_true (by first | (with_reducible assumption) | assumption)
               obtain ⟨ad124, e124, hx124_0⟩ := Kd.at_int HR123_0.out x4_2 p124 q124
               have hw124_0 := hx124_0
               cases e124
               first | replace hx124_0 := (HB.out.cell (World.block_lt_of_cell? w _ hx124_0)).trans hx124_0 | skip
               replace p124 := eq_true p124
               replace q124 := eq_true q124
               have p125 : 0 ≤ (x3_1 : Int) := of_decide_eq_true (by first | (with_reducible assumption) | assumption)
               have q125 : x3_1 < (l0.length : Int) := of_decide_eq_true (by first | (with_reducible assumption) | assumption)
               obtain ⟨ad125, A125_0, c125_0, A125_1, c125_1, e125, hx125_0, hx125_1, hl125_0, hi125_0, hl125_1, hi125_1⟩ := at_T72 HR0.out x3_1 p125 q125
               have hw125_1 := hx125_1
               have hw125_0 := hx125_0
               obtain rfl : ad119 = ad125 := (by injection e125)
               first | replace hx125_0 := (HB.out.cell (World.block_lt_of_cell? w _ hx125_0)).trans hx125_0 | skip
               first | replace hx125_1 := (HB.out.cell (World.block_lt_of_cell? w _ hx125_1)).trans hx125_1 | skip
               have HR125_0 := Aside0.mk hi125_0
               have HC125_0 := Aside0.mk hl125_0
               clear hi125_0 hl125_0
               have HR125_1 := Aside0.mk hi125_1
               have HC125_1 := Aside0.mk hl125_1
               clear hi125_1 hl125_1
               replace p125 := eq_true p125
               replace q125 := eq_true q125
               have ea_ := Option.some.inj (hx120_0.symm.trans hx125_0)
               injection ea_ with ea_ en_ ec_
               subst ea_
               subst ec_
               clear en_
               have ea_ := Option.some.inj (hx120_1.symm.trans hx125_1)
               injection ea_ with ea_ en_ ec_
               subst ea_
               subst ec_
               clear en_
               have p126 : 0 ≤ ((ji10) : Int) := of_decide_eq_true (by first | (with_reducible assumption) | assumption)
               have q126 : (ji10) < (((rd_T72 l0 x3_1).f0).length : Int) := of_decide_eq_true (by first | (with_reducible assumption) | assumption)
               obtain ⟨ad126, e126, hx126_0⟩ := Kd.at_int HR125_0.out (ji10) p126 q126
               have hw126_0 := hx126_0
               cases e126
               first | replace hx126_0 := (HB.out.cell (World.block_lt_of_cell? w _ hx126_0)).trans hx126_0 | skip
               replace p126 := eq_true p126
               replace q126 := eq_true q126
               refine start_ (n := 36) (S := fun w' => w'.cell? (ad119.add ((x3_1).toNat * 2)) = some (.slice (some ad121) ((rd_T72 l0 x3_1).f0).length c120_0) ∧ w'.cell? ⟨(ad119.add ((x3_1).toNat * 2)).block, (ad119.add ((x3_1).toNat * 2)).off + 1, none⟩ = some (.slice A120_1 ((rd_T72 l0 x3_1).f1).length c120_1) ∧ w'.cell? (ad121.add (x4_2).toNat) = some (.int .i64 (rd ((rd_T72 l0 x3_1).f0) x4_2)) ∧ w'.cell? (ad119.add ((x3_1).toNat * 2)) = some (.slice (some ad121) ((rd_T72 l0 x3_1).f0).length c120_0) ∧ w'.cell? ⟨(ad119.add ((x3_1).toNat * 2)).block, (ad119.add ((x3_1).toNat * 2)).off + 1, none⟩ = some (.slice A120_1 ((rd_T72 l0 x3_1).f1).length c120_1) ∧ w'.cell? (ad121.add (x4_2).toNat) = some (.int .i64 (rd ((rd_T72 l0 x3_1).f0) x4_2)) ∧ w'.cell? (ad119.add ((x3_1).toNat * 2)) = some (.slice (some ad121) ((rd_T72 l0 x3_1).f0).length c120_0) ∧ w'.cell? ⟨(ad119.add ((x3_1).toNat * 2)).block, (ad119.add ((x3_1).toNat * 2)).off + 1, none⟩ = some (.slice A120_1 ((rd_T72 l0 x3_1).f1).length c120_1) ∧ w'.cell? (ad121.add ((ji10)).toNat) = some (.int .i64 (rd ((rd_T72 l0 x3_1).f0) (ji10)))) (ds := []) (mB 36 0) (by kernel_rfl) rfl rfl ⟨((HB.out.cell (World.block_lt_of_cell? w _ hw120_0)).trans hw120_0), ((HB.out.cell (World.block_lt_of_cell? w _ hw120_1)).trans hw120_1), ((HB.out.cell (World.block_lt_of_cell? w _ hw121_0)).trans hw121_0), ((HB.out.cell (World.block_lt_of_cell? w _ hw123_0)).trans hw123_0), ((HB.out.cell (World.block_lt_of_cell? w _ hw123_1)).trans hw123_1), ((HB.out.cell (World.block_lt_of_cell? w _ hw124_0)).trans hw124_0), ((HB.out.cell (World.block_lt_of_cell? w _ hw125_0)).trans hw125_0), ((HB.out.cell (World.block_lt_of_cell? w _ hw125_1)).trans hw125_1), ((HB.out.cell (World.block_lt_of_cell? w _ hw126_0)).trans hw126_0)⟩ (fun hHeld => ?_); refine with_tabW spec_WorldValid.tab7 spec_WorldValid.bits7 (fun HT_ HW_ => ?_)
               generalize wr.drew = w15 at HB HR120_0 HR120_1 HR123_0 HR123_1 HR125_0 HR125_1 hx120_0 hx120_1 hx121_0 hx123_0 hx123_1 hx124_0 hx125_0 hx125_1 hx126_0 hHeld ⊢
               refine pn 0 21 HT_.out ?_
               refine pn 1 22 HT_.out ?_
               refine pn 2 23 HT_.out ?_
               refine pn 3 24 HT_.out ?_
               refine pn 5 26 HT_.out ?_
               refine pn 8 29 HT_.out ?_
               refine pn 9 30 HT_.out ?_
               refine tk 4 25 HT_.out HW_.out hHeld ?_
               refine pn 6 27 HT_.out ?_
               refine tk 7 28 HT_.out HW_.out hHeld ?_
               refine on 10 31 HT_.out (fun K hK => ?_)
               refine gs Try.func43 #[.int .i64 (rd ((rd_T72 l0 x3_1).f0) x4_2), .int .i64 0, .int .i64 (wrap64 (x3_1 - 1))] ?_
               with_reducible refine (spec_l1In.calls (rd ((rd_T72 l0 x3_1).f0) x4_2) 0 (wrap64 (x3_1 - 1)) true _ A7.out).mono ?_
               rintro e w' ⟨rfl, ⟨nd, rfl⟩⟩
               refine ⟨_, rfl, ?_⟩
               refine hK.out _ _ ⟨((HB.out.cell (World.block_lt_of_cell? w _ hw120_0)).trans hw120_0), ((HB.out.cell (World.block_lt_of_cell? w _ hw120_1)).trans hw120_1), ((HB.out.cell (World.block_lt_of_cell? w _ hw121_0)).trans hw121_0), ((HB.out.cell (World.block_lt_of_cell? w _ hw123_0)).trans hw123_0), ((HB.out.cell (World.block_lt_of_cell? w _ hw123_1)).trans hw123_1), ((HB.out.cell (World.block_lt_of_cell? w _ hw124_0)).trans hw124_0), ((HB.out.cell (World.block_lt_of_cell? w _ hw125_0)).trans hw125_0), ((HB.out.cell (World.block_lt_of_cell? w _ hw125_1)).trans hw125_1), ((HB.out.cell (World.block_lt_of_cell? w _ hw126_0)).trans hw126_0)⟩ (fun hHeld => ?_)
               clear hK K
               refine nm (some 31) ?_
               refine pn 11 32 HT_.out ?_
               refine pn 12 33 HT_.out ?_
               refine pn 13 34 HT_.out ?_
               refine pn 14 35 HT_.out ?_
               refine pn 15 36 HT_.out ?_
               refine pn 16 37 HT_.out ?_
               refine pn 17 38 HT_.out ?_
               refine pn 18 39 HT_.out ?_
               refine pn 19 40 HT_.out ?_
               refine pn 21 42 HT_.out ?_
               refine pn 24 45 HT_.out ?_
               refine pn 25 46 HT_.out ?_
               refine pn 26 47 HT_.out ?_
               refine pn 27 48 HT_.out ?_
               refine pn 29 50 HT_.out ?_
               refine pn 30 51 HT_.out ?_
               refine tk 20 41 HT_.out HW_.out hHeld ?_
               refine pn 22 43 HT_.out ?_
               refine tk 23 44 HT_.out HW_.out hHeld ?_
               refine tk 28 49 HT_.out HW_.out hHeld ?_
               refine pn 31 52 HT_.out ?_
               refine tk 32 53 HT_.out HW_.out hHeld ?_
               refine pn 33 54 HT_.out ?_
               refine pn 34 55 HT_.out ?_
               refine pn 35 56 HT_.out ?_
               refine done_ (done_of HT_.out (by kernel_rfl)) ?_
               try go_wp2
               go_roundg k2
               case measure => have := HK1.out; have := HK2.out; omega
               case rel => exact ⟨(wrap64 (x4_2 + 1)), (by first | rfl | (simp; done) | (simp [*]; done)), H', ⟨by have := HK1.out; have := HK2.out; omega⟩, ⟨by exact bw HB.out⟩⟩
             ·
              rw [if_neg c12] at H; exact absurd H (by simp)
            ·
             rw [if_neg c11] at H; exact absurd H (by simp)
           ·
            rw [if_neg c9] at H; have c9b0 : decide (0 < x4_2) = false := decide_eq_false c9; clear c9
            have H' := Aside0.mk H
            clear H
            have p119 : 0 ≤ (x3_1 : Int) := of_decide_eq_true (by first | (with_reducible assumption) | assumption)
            have q119 : x3_1 < (l0.length : Int) := of_decide_eq_true (by first | (with_reducible assumption) | assumption)
            obtain ⟨ad119, A119_0, c119_0, A119_1, c119_1, e119, hx119_0, hx119_1, hl119_0, hi119_0, hl119_1, hi119_1⟩ := at_T72 HR0.out x3_1 p119 q119
            cases e119
            first | replace hx119_0 := (HB.out.cell (World.block_lt_of_cell? w _ hx119_0)).trans hx119_0 | skip
            first | replace hx119_1 := (HB.out.cell (World.block_lt_of_cell? w _ hx119_1)).trans hx119_1 | skip
            have HR119_0 := Aside0.mk hi119_0
            have HC119_0 := Aside0.mk hl119_0
            clear hi119_0 hl119_0
            have HR119_1 := Aside0.mk hi119_1
            have HC119_1 := Aside0.mk hl119_1
            clear hi119_1 hl119_1
            replace p119 := eq_true p119
            replace q119 := eq_true q119
            try go_wp2
            replace HB := Aside0.mk (below_drew1 HB.out)
            have p120 : 0 ≤ (x3_1 : Int) := of_decide_eq_true (by first | (with_reducible assumption) | assumption)
            have q120 : x3_1 < (l0.length : Int) := of_decide_eq_true (by first | (with_reducible assumption) | assumption)
            obtain ⟨ad120, A120_0, c120_0, A120_1, c120_1, e120, hx120_0, hx120_1, hl120_0, hi120_0, hl120_1, hi120_1⟩ := at_T72 HR0.out x3_1 p120 q120
            have hw120_1 := hx120_1
            have hw120_0 := hx120_0
            obtain rfl : ad119 = ad120 := (by injection e120)
            first | replace hx120_0 := (HB.out.cell (World.block_lt_of_cell? w _ hx120_0)).trans hx120_0 | skip
            first | replace hx120_1 := (HB.out.cell (World.block_lt_of_cell? w _ hx120_1)).trans hx120_1 | skip
            have HR120_0 := Aside0.mk hi120_0
            have HC120_0 := Aside0.mk hl120_0
            clear hi120_0 hl120_0
            have HR120_1 := Aside0.mk hi120_1
            have HC120_1 := Aside0.mk hl120_1
            clear hi120_1 hl120_1
            replace p120 := eq_true p120
            replace q120 := eq_true q120
            have p121 : 0 ≤ (x4_2 : Int) := of_decide_eq_true (by first | (with_reducible assumption) | assumption)
            have q121 : x4_2 < (((rd_T72 l0 x3_1).f0).length : Int) := of_decide_eq_true (by first | (with_reducible assumption) | assumption)
            obtain ⟨ad121, e121, hx121_0⟩ := Kd.at_int HR120_0.out x4_2 p121 q121
            have hw121_0 := hx121_0
            cases e121
            first | replace hx121_0 := (HB.out.cell (World.block_lt_of_cell? w _ hx121_0)).trans hx121_0 | skip
            replace p121 := eq_true p121
            replace q121 := eq_true q121
            refine start_ (n := 36) (S := fun w' => w'.cell? (ad119.add ((x3_1).toNat * 2)) = some (.slice (some ad121) ((rd_T72 l0 x3_1).f0).length c120_0) ∧ w'.cell? ⟨(ad119.add ((x3_1).toNat * 2)).block, (ad119.add ((x3_1).toNat * 2)).off + 1, none⟩ = some (.slice A120_1 ((rd_T72 l0 x3_1).f1).length c120_1) ∧ w'.cell? (ad121.add (x4_2).toNat) = some (.int .i64 (rd ((rd_T72 l0 x3_1).f0) x4_2))) (ds := []) (mB 36 0) (by kernel_rfl) rfl rfl ⟨((HB.out.cell (World.block_lt_of_cell? w _ hw120_0)).trans hw120_0), ((HB.out.cell (World.block_lt_of_cell? w _ hw120_1)).trans hw120_1), ((HB.out.cell (World.block_lt_of_cell? w _ hw121_0)).trans hw121_0)⟩ (fun hHeld => ?_); refine with_tabW spec_WorldValid.tab7 spec_WorldValid.bits7 (fun HT_ HW_ => ?_)
            generalize wr.drew = w16 at HB HR120_0 HR120_1 hx120_0 hx120_1 hx121_0 hHeld ⊢
            refine pn 0 21 HT_.out ?_
            refine pn 1 22 HT_.out ?_
            refine pn 2 23 HT_.out ?_
            refine pn 3 24 HT_.out ?_
            refine pn 5 26 HT_.out ?_
            refine pn 8 29 HT_.out ?_
            refine pn 9 30 HT_.out ?_
            refine tk 4 25 HT_.out HW_.out hHeld ?_
            refine pn 6 27 HT_.out ?_
            refine tk 7 28 HT_.out HW_.out hHeld ?_
            refine on 10 31 HT_.out (fun K hK => ?_)
            refine gs Try.func43 #[.int .i64 (rd ((rd_T72 l0 x3_1).f0) x4_2), .int .i64 0, .int .i64 (wrap64 (x3_1 - 1))] ?_
            with_reducible refine (spec_l1In.calls (rd ((rd_T72 l0 x3_1).f0) x4_2) 0 (wrap64 (x3_1 - 1)) true _ A7.out).mono ?_
            rintro e w' ⟨rfl, ⟨nd, rfl⟩⟩
            refine ⟨_, rfl, ?_⟩
            refine hK.out _ _ ⟨((HB.out.cell (World.block_lt_of_cell? w _ hw120_0)).trans hw120_0), ((HB.out.cell (World.block_lt_of_cell? w _ hw120_1)).trans hw120_1), ((HB.out.cell (World.block_lt_of_cell? w _ hw121_0)).trans hw121_0)⟩ (fun hHeld => ?_)
            clear hK K
            refine nm (some 31) ?_
            refine pn 11 32 HT_.out ?_
            refine pn 12 33 HT_.out ?_
            refine pn 13 34 HT_.out ?_
            refine pn 14 35 HT_.out ?_
            refine pn 15 36 HT_.out ?_
            refine pf 16 37 HT_.out ?_
            refine pf 17 38 HT_.out ?_
            refine pf 18 39 HT_.out ?_
            refine pf 19 40 HT_.out ?_
            refine pf 20 41 HT_.out ?_
            refine pf 21 42 HT_.out ?_
            refine pf 22 43 HT_.out ?_
            refine pf 23 44 HT_.out ?_
            refine pf 24 45 HT_.out ?_
            refine pf 25 46 HT_.out ?_
            refine pf 26 47 HT_.out ?_
            refine pf 27 48 HT_.out ?_
            refine pf 28 49 HT_.out ?_
            refine pf 29 50 HT_.out ?_
            refine pf 30 51 HT_.out ?_
            refine pf 31 52 HT_.out ?_
            refine pf 32 53 HT_.out ?_
            refine pf 33 54 HT_.out ?_
            refine pn 34 55 HT_.out ?_
            refine pn 35 56 HT_.out ?_
            refine done_ (done_of HT_.out (by kernel_rfl)) ?_
            try go_wp2
            go_roundg k2
            case measure => have := HK1.out; have := HK2.out; omega
            case rel => exact ⟨(wrap64 (x4_2 + 1)), (by first | rfl | (simp; done) | (simp [*]; done)), H', ⟨by have := HK1.out; have := HK2.out; omega⟩, ⟨by exact bw HB.out⟩⟩
          ·
           replace c8 := Bool.eq_false_iff.mpr c8
           subst c8
           have H1 : (some false) = some r := by rw [if_neg (show ¬ (false = true) by decide)] at H; exact H
           clear H
           have H := H1
           clear H1
           obtain rfl := Option.some.inj H
           have p119 : 0 ≤ (x3_1 : Int) := of_decide_eq_true (by first | (with_reducible assumption) | assumption)
           have q119 : x3_1 < (l0.length : Int) := of_decide_eq_true (by first | (with_reducible assumption) | assumption)
           obtain ⟨ad119, A119_0, c119_0, A119_1, c119_1, e119, hx119_0, hx119_1, hl119_0, hi119_0, hl119_1, hi119_1⟩ := at_T72 HR0.out x3_1 p119 q119
           cases e119
           first | replace hx119_0 := (HB.out.cell (World.block_lt_of_cell? w _ hx119_0)).trans hx119_0 | skip
           first | replace hx119_1 := (HB.out.cell (World.block_lt_of_cell? w _ hx119_1)).trans hx119_1 | skip
           have HR119_0 := Aside0.mk hi119_0
           have HC119_0 := Aside0.mk hl119_0
           clear hi119_0 hl119_0
           have HR119_1 := Aside0.mk hi119_1
           have HC119_1 := Aside0.mk hl119_1
           clear hi119_1 hl119_1
           replace p119 := eq_true p119
           replace q119 := eq_true q119
           try go_wp2
           replace HB := Aside0.mk (below_drew1 HB.out)
           have p120 : 0 ≤ (x3_1 : Int) := of_decide_eq_true (by first | (with_reducible assumption) | assumption)
           have q120 : x3_1 < (l0.length : Int) := of_decide_eq_true (by first | (with_reducible assumption) | assumption)
           obtain ⟨ad120, A120_0, c120_0, A120_1, c120_1, e120, hx120_0, hx120_1, hl120_0, hi120_0, hl120_1, hi120_1⟩ := at_T72 HR0.out x3_1 p120 q120
           have hw120_1 := hx120_1
           have hw120_0 := hx120_0
           obtain rfl : ad119 = ad120 := (by injection e120)
           first | replace hx120_0 := (HB.out.cell (World.block_lt_of_cell? w _ hx120_0)).trans hx120_0 | skip
           first | replace hx120_1 := (HB.out.cell (World.block_lt_of_cell? w _ hx120_1)).trans hx120_1 | skip
           have HR120_0 := Aside0.mk hi120_0
           have HC120_0 := Aside0.mk hl120_0
           clear hi120_0 hl120_0
           have HR120_1 := Aside0.mk hi120_1
           have HC120_1 := Aside0.mk hl120_1
           clear hi120_1 hl120_1
           replace p120 := eq_true p120
           replace q120 := eq_true q120
           have p121 : 0 ≤ (x4_2 : Int) := of_decide_eq_true (by first | (with_reducible assumption) | assumption)
           have q121 : x4_2 < (((rd_T72 l0 x3_1).f0).length : Int) := of_decide_eq_true (by first | (with_reducible assumption) | assumption)
           obtain ⟨ad121, e121, hx121_0⟩ := Kd.at_int HR120_0.out x4_2 p121 q121
           have hw121_0 := hx121_0
           cases e121
           first | replace hx121_0 := (HB.out.cell (World.block_lt_of_cell? w _ hx121_0)).trans hx121_0 | skip
           replace p121 := eq_true p121
           replace q121 := eq_true q121
           refine start_ (n := 36) (S := fun w' => w'.cell? (ad119.add ((x3_1).toNat * 2)) = some (.slice (some ad121) ((rd_T72 l0 x3_1).f0).length c120_0) ∧ w'.cell? ⟨(ad119.add ((x3_1).toNat * 2)).block, (ad119.add ((x3_1).toNat * 2)).off + 1, none⟩ = some (.slice A120_1 ((rd_T72 l0 x3_1).f1).length c120_1) ∧ w'.cell? (ad121.add (x4_2).toNat) = some (.int .i64 (rd ((rd_T72 l0 x3_1).f0) x4_2))) (ds := []) (mB 36 0) (by kernel_rfl) rfl rfl ⟨((HB.out.cell (World.block_lt_of_cell? w _ hw120_0)).trans hw120_0), ((HB.out.cell (World.block_lt_of_cell? w _ hw120_1)).trans hw120_1), ((HB.out.cell (World.block_lt_of_cell? w _ hw121_0)).trans hw121_0)⟩ (fun hHeld => ?_); refine with_tabW spec_WorldValid.tab7 spec_WorldValid.bits7 (fun HT_ HW_ => ?_)
           generalize wr.drew = w17 at HB HR120_0 HR120_1 hx120_0 hx120_1 hx121_0 hHeld ⊢
           refine pn 0 21 HT_.out ?_
           refine pn 1 22 HT_.out ?_
           refine pn 2 23 HT_.out ?_
           refine pn 3 24 HT_.out ?_
           refine pn 5 26 HT_.out ?_
           refine pn 8 29 HT_.out ?_
           refine pn 9 30 HT_.out ?_
           refine tk 4 25 HT_.out HW_.out hHeld ?_
           refine pn 6 27 HT_.out ?_
           refine tk 7 28 HT_.out HW_.out hHeld ?_
           refine on 10 31 HT_.out (fun K hK => ?_)
           refine gs Try.func43 #[.int .i64 (rd ((rd_T72 l0 x3_1).f0) x4_2), .int .i64 0, .int .i64 (wrap64 (x3_1 - 1))] ?_
           with_reducible refine (spec_l1In.calls (rd ((rd_T72 l0 x3_1).f0) x4_2) 0 (wrap64 (x3_1 - 1)) false _ A7.out).mono ?_
           rintro e w' ⟨rfl, ⟨nd, rfl⟩⟩
           refine ⟨_, rfl, ?_⟩
           refine hK.out _ _ ⟨((HB.out.cell (World.block_lt_of_cell? w _ hw120_0)).trans hw120_0), ((HB.out.cell (World.block_lt_of_cell? w _ hw120_1)).trans hw120_1), ((HB.out.cell (World.block_lt_of_cell? w _ hw121_0)).trans hw121_0)⟩ (fun hHeld => ?_)
           clear hK K
           refine nm (some 31) ?_
           refine pn 11 32 HT_.out ?_
           refine pn 12 33 HT_.out ?_
           refine pf 13 34 HT_.out ?_
           refine pf 14 35 HT_.out ?_
           refine pf 15 36 HT_.out ?_
           refine pf 16 37 HT_.out ?_
           refine pf 17 38 HT_.out ?_
           refine pf 18 39 HT_.out ?_
           refine pf 19 40 HT_.out ?_
           refine pf 20 41 HT_.out ?_
           refine pf 21 42 HT_.out ?_
           refine pf 22 43 HT_.out ?_
           refine pf 23 44 HT_.out ?_
           refine pf 24 45 HT_.out ?_
           refine pf 25 46 HT_.out ?_
           refine pf 26 47 HT_.out ?_
           refine pf 27 48 HT_.out ?_
           refine pf 28 49 HT_.out ?_
           refine pf 29 50 HT_.out ?_
           refine pf 30 51 HT_.out ?_
           refine pf 31 52 HT_.out ?_
           refine pf 32 53 HT_.out ?_
           refine pf 33 54 HT_.out ?_
           refine pf 34 55 HT_.out ?_
           refine pn 35 56 HT_.out ?_
           refine done_ (done_of HT_.out (by kernel_rfl)) ?_
           try go_wp2
           go_ret
           exact ⟨by first | rfl | (simp [errW_none, errW_some] <;> rfl) | (simp [*, errW_none, errW_some] <;> rfl), by exact bw HB.out⟩
         ·
          rw [if_neg c6] at H; exact absurd H (by simp)
        ·
         rw [if_neg c5] at H; have c5b0 : decide (x4_2 < (((rd_T72 l0 x3_1).f0).length : Int)) = false := decide_eq_false c5; clear c5
         replace H := Option.bind_eq_some_iff.mp H
         obtain ⟨t128, A180, H⟩ := H
         replace H : (if t128 = true then (spec_WorldValid.l0 k2 l0 (wrap64 (x3_1 + 1))) else (some false)) = some r := H
         have A18 := Aside0.mk A180
         clear A180
         by_cases c19 : t128 = true
         ·
          subst c19
          have H1 : (spec_WorldValid.l0 k2 l0 (wrap64 (x3_1 + 1))) = some r := by rw [if_pos rfl] at H; exact H
          clear H
          have H := H1
          clear H1
          have H' := Aside0.mk H
          clear H
          have p119 : 0 ≤ (x3_1 : Int) := of_decide_eq_true (by first | (with_reducible assumption) | assumption)
          have q119 : x3_1 < (l0.length : Int) := of_decide_eq_true (by first | (with_reducible assumption) | assumption)
          obtain ⟨ad119, A119_0, c119_0, A119_1, c119_1, e119, hx119_0, hx119_1, hl119_0, hi119_0, hl119_1, hi119_1⟩ := at_T72 HR0.out x3_1 p119 q119
          cases e119
          first | replace hx119_0 := (HB.out.cell (World.block_lt_of_cell? w _ hx119_0)).trans hx119_0 | skip
          first | replace hx119_1 := (HB.out.cell (World.block_lt_of_cell? w _ hx119_1)).trans hx119_1 | skip
          have HR119_0 := Aside0.mk hi119_0
          have HC119_0 := Aside0.mk hl119_0
          clear hi119_0 hl119_0
          have HR119_1 := Aside0.mk hi119_1
          have HC119_1 := Aside0.mk hl119_1
          clear hi119_1 hl119_1
          replace p119 := eq_true p119
          replace q119 := eq_true q119
          have p127 : 0 ≤ (x3_1 : Int) := of_decide_eq_true (by first | (with_reducible assumption) | assumption)
          have q127 : x3_1 < (l0.length : Int) := of_decide_eq_true (by first | (with_reducible assumption) | assumption)
          obtain ⟨ad127, A127_0, c127_0, A127_1, c127_1, e127, hx127_0, hx127_1, hl127_0, hi127_0, hl127_1, hi127_1⟩ := at_T72 HR0.out x3_1 p127 q127
          obtain rfl : ad119 = ad127 := (by injection e127)
          first | replace hx127_0 := (HB.out.cell (World.block_lt_of_cell? w _ hx127_0)).trans hx127_0 | skip
          first | replace hx127_1 := (HB.out.cell (World.block_lt_of_cell? w _ hx127_1)).trans hx127_1 | skip
          have HR127_0 := Aside0.mk hi127_0
          have HC127_0 := Aside0.mk hl127_0
          clear hi127_0 hl127_0
          have HR127_1 := Aside0.mk hi127_1
          have HC127_1 := Aside0.mk hl127_1
          clear hi127_1 hl127_1
          replace p127 := eq_true p127
          replace q127 := eq_true q127
          have ea_ := Option.some.inj (hx119_0.symm.trans hx127_0)
          injection ea_ with ea_ en_ ec_
          subst ea_
          subst ec_
          clear en_
          have ea_ := Option.some.inj (hx119_1.symm.trans hx127_1)
          injection ea_ with ea_ en_ ec_
          subst ea_
          subst ec_
          clear en_
          go_wp2_with (first | ((with_reducible refine gate_callee (f := 50) rfl ?_); refine gl (some 64) Try.func50 #[.slice A119_1 ((rd_T72 l0 x3_1).f1).length c119_1, .int .i64 (l0.length : Int)] ?_; (with_reducible refine (spec_l2Fields.calls k2 _ _ ((rd_T72 l0 x3_1).f1) (l0.length : Int) true _ ?side1 ?side2 A18.out).mono ?_); (case side1 => repeat (first | exact (Kd.C_below HR127_1.out HB.out) | (with_reducible refine Kd.C_alloc ?_ _) | (with_reducible refine Kd.C_drewN ?_ _) | (with_reducible refine Kd.C_drew ?_))); (case side2 => exact HC127_1.out); rintro e w20 ⟨rfl, hb⟩; refine ⟨_, rfl, ?_⟩; replace HB := bS HB hb; (try clear hb); (try clear hb2); (try clear hk); (try clear hi)))
          go_roundg k2
          case measure => have := HK1.out; have := HK2.out; omega
          case rel => exact ⟨(wrap64 (x3_1 + 1)), (by first | rfl | (simp; done) | (simp [*]; done)), H', ⟨by have := HK1.out; have := HK2.out; omega⟩, ⟨by exact bw HB.out⟩⟩
         ·
          replace c19 := Bool.eq_false_iff.mpr c19
          subst c19
          have H1 : (some false) = some r := by rw [if_neg (show ¬ (false = true) by decide)] at H; exact H
          clear H
          have H := H1
          clear H1
          obtain rfl := Option.some.inj H
          have p119 : 0 ≤ (x3_1 : Int) := of_decide_eq_true (by first | (with_reducible assumption) | assumption)
          have q119 : x3_1 < (l0.length : Int) := of_decide_eq_true (by first | (with_reducible assumption) | assumption)
          obtain ⟨ad119, A119_0, c119_0, A119_1, c119_1, e119, hx119_0, hx119_1, hl119_0, hi119_0, hl119_1, hi119_1⟩ := at_T72 HR0.out x3_1 p119 q119
          cases e119
          first | replace hx119_0 := (HB.out.cell (World.block_lt_of_cell? w _ hx119_0)).trans hx119_0 | skip
          first | replace hx119_1 := (HB.out.cell (World.block_lt_of_cell? w _ hx119_1)).trans hx119_1 | skip
          have HR119_0 := Aside0.mk hi119_0
          have HC119_0 := Aside0.mk hl119_0
          clear hi119_0 hl119_0
          have HR119_1 := Aside0.mk hi119_1
          have HC119_1 := Aside0.mk hl119_1
          clear hi119_1 hl119_1
          replace p119 := eq_true p119
          replace q119 := eq_true q119
          have p127 : 0 ≤ (x3_1 : Int) := of_decide_eq_true (by first | (with_reducible assumption) | assumption)
          have q127 : x3_1 < (l0.length : Int) := of_decide_eq_true (by first | (with_reducible assumption) | assumption)
          obtain ⟨ad127, A127_0, c127_0, A127_1, c127_1, e127, hx127_0, hx127_1, hl127_0, hi127_0, hl127_1, hi127_1⟩ := at_T72 HR0.out x3_1 p127 q127
          obtain rfl : ad119 = ad127 := (by injection e127)
          first | replace hx127_0 := (HB.out.cell (World.block_lt_of_cell? w _ hx127_0)).trans hx127_0 | skip
          first | replace hx127_1 := (HB.out.cell (World.block_lt_of_cell? w _ hx127_1)).trans hx127_1 | skip
          have HR127_0 := Aside0.mk hi127_0
          have HC127_0 := Aside0.mk hl127_0
          clear hi127_0 hl127_0
          have HR127_1 := Aside0.mk hi127_1
          have HC127_1 := Aside0.mk hl127_1
          clear hi127_1 hl127_1
          replace p127 := eq_true p127
          replace q127 := eq_true q127
          have ea_ := Option.some.inj (hx119_0.symm.trans hx127_0)
          injection ea_ with ea_ en_ ec_
          subst ea_
          subst ec_
          clear en_
          have ea_ := Option.some.inj (hx119_1.symm.trans hx127_1)
          injection ea_ with ea_ en_ ec_
          subst ea_
          subst ec_
          clear en_
          go_wp2_with (first | ((with_reducible refine gate_callee (f := 50) rfl ?_); refine gl (some 64) Try.func50 #[.slice A119_1 ((rd_T72 l0 x3_1).f1).length c119_1, .int .i64 (l0.length : Int)] ?_; (with_reducible refine (spec_l2Fields.calls k2 _ _ ((rd_T72 l0 x3_1).f1) (l0.length : Int) false _ ?side1 ?side2 A18.out).mono ?_); (case side1 => repeat (first | exact (Kd.C_below HR127_1.out HB.out) | (with_reducible refine Kd.C_alloc ?_ _) | (with_reducible refine Kd.C_drewN ?_ _) | (with_reducible refine Kd.C_drew ?_))); (case side2 => exact HC127_1.out); rintro e w21 ⟨rfl, hb⟩; refine ⟨_, rfl, ?_⟩; replace HB := bS HB hb; (try clear hb); (try clear hb2); (try clear hk); (try clear hi)))
          go_ret
          exact ⟨by first | rfl | (simp [errW_none, errW_some] <;> rfl) | (simp [*, errW_none, errW_some] <;> rfl), by exact bw HB.out⟩
       ·
        rw [if_neg c4] at H; exact absurd H (by simp)
      ·
       rw [if_neg c3] at H; exact absurd H (by simp)
   ·
    rw [if_neg c2] at H; have c2b0 : decide (x3_1 < (l0.length : Int)) = false := decide_eq_false c2; clear c2
    obtain rfl := Option.some.inj H
    go_wp2
    go_ret
    exact ⟨by first | rfl | (simp [errW_none, errW_some] <;> rfl) | (simp [*, errW_none, errW_some] <;> rfl), by exact bw HB.out⟩

end Go.Proofs.Ytacpkmdnoggmoaa.P
