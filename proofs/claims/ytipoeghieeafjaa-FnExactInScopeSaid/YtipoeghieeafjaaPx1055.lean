-- Written by a program of this session (wip/tool).
import Derived.Test.YtipoeghieeafjaaPx0
import Derived.Test.YtipoeghieeafjaaPx1010
import Derived.Test.YtipoeghieeafjaaPx1060
namespace Go.Proofs.Ytipoeghieeafjaa.P
open Go.RowKit Go.Proofs.YtipoeghieeafjaaW.PrintWords Go.Proofs.YtipoeghieeafjaaW.PrintLast Go.Proofs.YtipoeghieeafjaaW.PrintMore
attribute [local go_sem] max2_int min2_int max_two min_two max_three min_three max_four min_four   -- for this text's walks alone
set_option linter.unusedVariables false
set_option linter.unusedSimpArgs false

/-! ### spec_WorldValid: function 55 -/
mutual
def spec_WorldValid.l0 : Nat → List (S79) → Int → Option (Bool)
 | 0, _, _ => none
 | k + 1, x0, x3 => if x3 < (x0.length : Int) then (spec_WorldValid.l1 k x0 x3 0) else (some (decide ((x0.length : Int) ≤ 7)))
def spec_WorldValid.l1 : Nat → List (S79) → Int → Int → Option (Bool)
 | 0, _, _, _ => none
 | k + 1, x0, x3, x4 => if 0 ≤ x3 then (if x3 < (x0.length : Int) then (if x4 < (((rd_T79 x0 x3).f0).length : Int) then (if 0 ≤ x4 then ((spec_l1In.f (rd ((rd_T79 x0 x3).f0) x4) 0 (wrap64 (x3 - 1))).bind fun t134 => (if t134 = true then (if x4 > 0 then (if 0 ≤ (wrap64 (x4 - 1)) then (if (wrap64 (x4 - 1)) < (((rd_T79 x0 x3).f0).length : Int) then (if (rd ((rd_T79 x0 x3).f0) x4) ≤ (rd ((rd_T79 x0 x3).f0) (wrap64 (x4 - 1))) then (some false) else (spec_WorldValid.l1 k x0 x3 (wrap64 (x4 + 1)))) else (none)) else (none)) else (spec_WorldValid.l1 k x0 x3 (wrap64 (x4 + 1)))) else (some false))) else (none)) else ((spec_l2Fields.f k ((rd_T79 x0 x3).f1) (x0.length : Int)).bind fun t140 => (if t140 = true then (spec_WorldValid.l0 k x0 (wrap64 (x3 + 1))) else (some false)))) else (none)) else (none)
end
def spec_WorldValid.f (k : Nat) (l0 : List (S79)) : Option (Bool) := spec_WorldValid.l0 k l0 0
theorem spec_WorldValid.mono_l : ∀ k, (∀ y0 y1, LeO (spec_WorldValid.l0 k y0 y1) (spec_WorldValid.l0 (k + 1) y0 y1)) ∧ (∀ y0 y1 y2, LeO (spec_WorldValid.l1 k y0 y1 y2) (spec_WorldValid.l1 (k + 1) y0 y1 y2))
 | 0 => ⟨fun _ _ r h => by simp [spec_WorldValid.l0] at h, fun _ _ _ r h => by simp [spec_WorldValid.l1] at h⟩
 | k + 1 => by
  obtain ⟨ih0, ih1⟩ := spec_WorldValid.mono_l k
  refine ⟨?_, ?_⟩
  ·
   intro y0 y1
   unfold spec_WorldValid.l0
   repeat' first
   | (with_reducible exact ih0 _ _)
   | (with_reducible exact ih1 _ _ _)
   | (with_reducible exact spec_l2Fields.mono _ _ _)
   | (with_reducible exact LeO.refl _)
   | (with_reducible exact LeO.none _)
   | (with_reducible refine LeO.ite ?_ ?_)
   | (with_reducible refine LeO.bind ?_ (fun _ => ?_))
   | exact ih0 _ _
   | exact ih1 _ _ _
   | exact spec_l2Fields.mono _ _ _
   | exact LeO.none _
   | refine LeO.ite ?_ ?_
   | refine LeO.bind ?_ (fun _ => ?_)
  ·
   intro y0 y1 y2
   unfold spec_WorldValid.l1
   repeat' first
   | (with_reducible exact ih0 _ _)
   | (with_reducible exact ih1 _ _ _)
   | (with_reducible exact spec_l2Fields.mono _ _ _)
   | (with_reducible exact LeO.refl _)
   | (with_reducible exact LeO.none _)
   | (with_reducible refine LeO.ite ?_ ?_)
   | (with_reducible refine LeO.bind ?_ (fun _ => ?_))
   | exact ih0 _ _
   | exact ih1 _ _ _
   | exact spec_l2Fields.mono _ _ _
   | exact LeO.none _
   | refine LeO.ite ?_ ?_
   | refine LeO.bind ?_ (fun _ => ?_)
theorem spec_WorldValid.mono : ∀ a0 k, LeO (spec_WorldValid.f k a0) (spec_WorldValid.f (k + 1) a0) := by
 intro a0 k
 obtain ⟨ih0, ih1⟩ := spec_WorldValid.mono_l k
 unfold spec_WorldValid.f
 repeat' first
   | (with_reducible exact ih0 _ _)
   | (with_reducible exact ih1 _ _ _)
   | (with_reducible exact spec_l2Fields.mono _ _ _)
   | (with_reducible exact LeO.refl _)
   | (with_reducible exact LeO.none _)
   | (with_reducible refine LeO.ite ?_ ?_)
   | (with_reducible refine LeO.bind ?_ (fun _ => ?_))
   | exact ih0 _ _
   | exact ih1 _ _ _
   | exact spec_l2Fields.mono _ _ _
   | exact LeO.none _
   | refine LeO.ite ?_ ?_
   | refine LeO.bind ?_ (fun _ => ?_)
def spec_WorldValid.T7 : Bool × List (List Nat × List Nat) := (true, [([], []), ([], []), ([0, 1], [0, 1]), ([2], [2]), ([3], [3]), ([], []), ([4, 5], [4, 5]), ([6], [6]), ([], []), ([8], [8]), ([7, 9], [7, 9]), ([10], [10]), ([11, 10], [11]), ([12], [12]), ([13, 12], [12, 13]), ([14, 12, 12], [12, 14]), ([15], [15]), ([15], [15]), ([16, 17, 15], [15, 16, 17]), ([18, 15], [15, 18]), ([19, 15], [15, 19]), ([15], [15]), ([20, 21, 15], [15, 20, 21]), ([22, 15], [15, 22]), ([15], [15]), ([15], [15]), ([24, 25, 15], [15, 24, 25]), ([26, 15], [15, 26]), ([27, 15], [15, 27]), ([15], [15]), ([29, 15], [15, 29]), ([28, 30, 15], [15, 28, 30]), ([31, 15], [15, 31]), ([23, 32, 15], [15, 23, 32]), ([15, 33, 12], [12, 15, 33]), ([12, 34], [12, 34])])
def spec_WorldValid.B7 : List Nat := [0, 0, 3, 7, 15, 0, 63, 127, 0, 256, 1023, 2047, 4095, 8191, 16383, 32767, 65535, 65535, 262143, 524287, 1048575, 65535, 4194303, 8388607, 65535, 65535, 50397183, 117506047, 251723775, 65535, 536936447, 2130771967, 4278255615, 8589934591, 17179869183, 34359738367]
theorem spec_WorldValid.tab7 : rtab .any (opsOf Try.f55 7) = spec_WorldValid.T7 := by kernel_rfl
theorem spec_WorldValid.bits7 : waitsOk spec_WorldValid.T7.2 spec_WorldValid.B7 = true := by kernel_rfl
set_option maxHeartbeats 8000000 in
set_option maxRecDepth 100000 in
theorem spec_WorldValid.calls (k : Nat) (A0 : Option Addr) (c0 : Nat) (l0 : List (S79)) (r : Bool) (w : World) (hr0 : Kd.C k79 w A0 l0.length l0) (hc0 : l0.length ≤ c0) (h : spec_WorldValid.f k l0 = some r) :
  Calls Try.prog 55 #[.slice A0 l0.length c0] w fun e w' => e = .returned (.bool r) ∧ Below w.heap.size w w' := by
 have HR0 := Aside0.mk hr0
 have HC0 := Aside0.mk hc0
 clear hr0 hc0
 have HB := Aside0.mk (Below.refl w.heap.size w)
 have H : (spec_WorldValid.l0 k l0 0) = some r := h
 clear h
 have H' := Aside0.mk H
 clear H
 go_enter Try.func55, Try.ntmps55
 go_wp2
 go_loopg [3] k (fun kq v3 w' => ∃ (x3_1 : Int), v3 = .int .i64 x3_1 ∧ Aside0 (spec_WorldValid.l0 kq l0 x3_1 = some r) ∧ Aside0 (kq ≤ k) ∧ Aside0 (Below w.heap.size w w'))
 case atStart => exact ⟨(0), (by first | rfl | (simp; done) | (simp [*]; done)), H', ⟨Nat.le_refl _⟩, ⟨by exact bw HB.out⟩⟩
 case round =>
  clear H'
  obtain ⟨x3_1, rfl, HA, HK1, HB⟩ := hrel
  cases gk with
  | zero => exact absurd HA.out (by simp [spec_WorldValid.l0])
  | succ k1 =>
   have H := HA.out
   clear HA
   simp only [spec_WorldValid.l0] at H
   by_cases c2 : x3_1 < (l0.length : Int)
   ·
    rw [if_pos c2] at H; have c2b0 : decide (x3_1 < (l0.length : Int)) = true := decide_eq_true c2; clear c2
    have H' := Aside0.mk H
    clear H
    go_wp2
    go_loopg [4] k1 (fun kq v4 w' => ∃ (x4_2 : Int), v4 = .int .i64 x4_2 ∧ Aside0 (spec_WorldValid.l1 kq l0 x3_1 x4_2 = some r) ∧ Aside0 (kq ≤ k1) ∧ Aside0 (Below w.heap.size w w'))
    case atStart => exact ⟨(0), (by first | rfl | (simp; done) | (simp [*]; done)), H', ⟨Nat.le_refl _⟩, ⟨by exact bw HB.out⟩⟩
    case round =>
     clear H'
     try clear c2
     try clear c2b0
     try clear p2
     obtain ⟨x4_2, rfl, HA, HK2, HB⟩ := hrel
     cases gk with
     | zero => exact absurd HA.out (by simp [spec_WorldValid.l1])
     | succ k2 =>
      have H := HA.out
      clear HA
      simp only [spec_WorldValid.l1] at H
      by_cases c3 : 0 ≤ x3_1
      ·
       rw [if_pos c3] at H; have c3b0 : decide (0 ≤ x3_1) = true := decide_eq_true c3; clear c3
       by_cases c4 : x3_1 < (l0.length : Int)
       ·
        rw [if_pos c4] at H; have c4b0 : decide (x3_1 < (l0.length : Int)) = true := decide_eq_true c4; clear c4
        by_cases c5 : x4_2 < (((rd_T79 l0 x3_1).f0).length : Int)
        ·
         rw [if_pos c5] at H; have c5b0 : decide (x4_2 < (((rd_T79 l0 x3_1).f0).length : Int)) = true := decide_eq_true c5; clear c5
         by_cases c6 : 0 ≤ x4_2
         ·
          rw [if_pos c6] at H; have c6b0 : decide (0 ≤ x4_2) = true := decide_eq_true c6; clear c6
          replace H := Option.bind_eq_some_iff.mp H
          obtain ⟨t134, A70, H⟩ := H
          replace H : (if t134 = true then (if x4_2 > 0 then (if 0 ≤ (wrap64 (x4_2 - 1)) then (if (wrap64 (x4_2 - 1)) < (((rd_T79 l0 x3_1).f0).length : Int) then (if (rd ((rd_T79 l0 x3_1).f0) x4_2) ≤ (rd ((rd_T79 l0 x3_1).f0) (wrap64 (x4_2 - 1))) then (some false) else (spec_WorldValid.l1 k2 l0 x3_1 (wrap64 (x4_2 + 1)))) else (none)) else (none)) else (spec_WorldValid.l1 k2 l0 x3_1 (wrap64 (x4_2 + 1)))) else (some false)) = some r := H
          have A7 := Aside0.mk A70
          clear A70
          by_cases c8 : t134 = true
          ·
           subst c8
           have H1 : (if x4_2 > 0 then (if 0 ≤ (wrap64 (x4_2 - 1)) then (if (wrap64 (x4_2 - 1)) < (((rd_T79 l0 x3_1).f0).length : Int) then (if (rd ((rd_T79 l0 x3_1).f0) x4_2) ≤ (rd ((rd_T79 l0 x3_1).f0) (wrap64 (x4_2 - 1))) then (some false) else (spec_WorldValid.l1 k2 l0 x3_1 (wrap64 (x4_2 + 1)))) else (none)) else (none)) else (spec_WorldValid.l1 k2 l0 x3_1 (wrap64 (x4_2 + 1)))) = some r := by rw [if_pos rfl] at H; exact H
           clear H
           have H := H1
           clear H1
           by_cases c9 : x4_2 > 0
           ·
            rw [if_pos c9] at H; have c9b0 : decide (0 < x4_2) = true := decide_eq_true c9; clear c9
            obtain ⟨ji10, hji10⟩ : ∃ j_ : Int, (wrap64 (x4_2 - 1)) = j_ := ⟨_, rfl⟩
            replace H : (if 0 ≤ (ji10) then (if (ji10) < (((rd_T79 l0 x3_1).f0).length : Int) then (if (rd ((rd_T79 l0 x3_1).f0) x4_2) ≤ (rd ((rd_T79 l0 x3_1).f0) (ji10)) then (some false) else (spec_WorldValid.l1 k2 l0 x3_1 (wrap64 (x4_2 + 1)))) else (none)) else (none)) = some r := by first | (rw [hji10] at H; exact H) | (simp only [hji10] at H ⊢; exact H)
            (try rw [hji10] at A7)
            have hji10w : (IntKind.i64.wrap (x4_2 - 1)) = ji10 := (i64_w _).trans hji10
            by_cases c11 : 0 ≤ (ji10)
            ·
             rw [if_pos c11] at H; have c11b0 : decide (0 ≤ (ji10)) = true := decide_eq_true c11; clear c11
             by_cases c12 : (ji10) < (((rd_T79 l0 x3_1).f0).length : Int)
             ·
              rw [if_pos c12] at H; have c12b0 : decide ((ji10) < (((rd_T79 l0 x3_1).f0).length : Int)) = true := decide_eq_true c12; clear c12
              by_cases c13 : (rd ((rd_T79 l0 x3_1).f0) x4_2) ≤ (rd ((rd_T79 l0 x3_1).f0) (ji10))
              ·
               rw [if_pos c13] at H; have c13b0 : decide ((rd ((rd_T79 l0 x3_1).f0) x4_2) ≤ (rd ((rd_T79 l0 x3_1).f0) (ji10))) = true := decide_eq_true c13; clear c13
               obtain rfl := Option.some.inj H
               have p131 : 0 ≤ (x3_1 : Int) := of_decide_eq_true (by first | (with_reducible assumption) | assumption)
               have q131 : x3_1 < (l0.length : Int) := of_decide_eq_true (by first | (with_reducible assumption) | assumption)
               obtain ⟨ad131, A131_0, c131_0, A131_1, c131_1, e131, hx131_0, hx131_1, hl131_0, hi131_0, hl131_1, hi131_1⟩ := at_T79 HR0.out x3_1 p131 q131
               cases e131
               first | replace hx131_0 := (HB.out.cell (World.block_lt_of_cell? w _ hx131_0)).trans hx131_0 | skip
               first | replace hx131_1 := (HB.out.cell (World.block_lt_of_cell? w _ hx131_1)).trans hx131_1 | skip
               have HR131_0 := Aside0.mk hi131_0
               have HC131_0 := Aside0.mk hl131_0
               clear hi131_0 hl131_0
               have HR131_1 := Aside0.mk hi131_1
               have HC131_1 := Aside0.mk hl131_1
               clear hi131_1 hl131_1
               replace p131 := eq_true p131
               replace q131 := eq_true q131
               try go_wp2
               replace HB := Aside0.mk (below_drew1 HB.out)
               have p132 : 0 ≤ (x3_1 : Int) := of_decide_eq_true (by first | (with_reducible assumption) | assumption)
               have q132 : x3_1 < (l0.length : Int) := of_decide_eq_true (by first | (with_reducible assumption) | assumption)
               obtain ⟨ad132, A132_0, c132_0, A132_1, c132_1, e132, hx132_0, hx132_1, hl132_0, hi132_0, hl132_1, hi132_1⟩ := at_T79 HR0.out x3_1 p132 q132
               have hw132_1 := hx132_1
               have hw132_0 := hx132_0
               obtain rfl : ad131 = ad132 := (by injection e132)
               first | replace hx132_0 := (HB.out.cell (World.block_lt_of_cell? w _ hx132_0)).trans hx132_0 | skip
               first | replace hx132_1 := (HB.out.cell (World.block_lt_of_cell? w _ hx132_1)).trans hx132_1 | skip
               have HR132_0 := Aside0.mk hi132_0
               have HC132_0 := Aside0.mk hl132_0
               clear hi132_0 hl132_0
               have HR132_1 := Aside0.mk hi132_1
               have HC132_1 := Aside0.mk hl132_1
               clear hi132_1 hl132_1
               replace p132 := eq_true p132
               replace q132 := eq_true q132
               have p133 : 0 ≤ (x4_2 : Int) := of_decide_eq_true (by first | (with_reducible assumption) | assumption)
               have q133 : x4_2 < (((rd_T79 l0 x3_1).f0).length : Int) := of_decide_eq_true (by first | (with_reducible assumption) | assumption)
               obtain ⟨ad133, e133, hx133_0⟩ := Kd.at_int HR132_0.out x4_2 p133 q133
               have hw133_0 := hx133_0
               cases e133
               first | replace hx133_0 := (HB.out.cell (World.block_lt_of_cell? w _ hx133_0)).trans hx133_0 | skip
               replace p133 := eq_true p133
               replace q133 := eq_true q133
               have p135 : 0 ≤ (x3_1 : Int) := of_decide_eq_true (by first | (with_reducible assumption) | assumption)
               have q135 : x3_1 < (l0.length : Int) := of_decide_eq_true (by first | (with_reducible assumption) | assumption)
               obtain ⟨ad135, A135_0, c135_0, A135_1, c135_1, e135, hx135_0, hx135_1, hl135_0, hi135_0, hl135_1, hi135_1⟩ := at_T79 HR0.out x3_1 p135 q135
               have hw135_1 := hx135_1
               have hw135_0 := hx135_0
               obtain rfl : ad131 = ad135 := (by injection e135)
               first | replace hx135_0 := (HB.out.cell (World.block_lt_of_cell? w _ hx135_0)).trans hx135_0 | skip
               first | replace hx135_1 := (HB.out.cell (World.block_lt_of_cell? w _ hx135_1)).trans hx135_1 | skip
               have HR135_0 := Aside0.mk hi135_0
               have HC135_0 := Aside0.mk hl135_0
               clear hi135_0 hl135_0
               have HR135_1 := Aside0.mk hi135_1
               have HC135_1 := Aside0.mk hl135_1
               clear hi135_1 hl135_1
               replace p135 := eq_true p135
               replace q135 := eq_true q135
               have ea_ := Option.some.inj (hx132_0.symm.trans hx135_0)
               injection ea_ with ea_ en_ ec_
               subst ea_
               subst ec_
               clear en_
               have ea_ := Option.some.inj (hx132_1.symm.trans hx135_1)
               injection ea_ with ea_ en_ ec_
               subst ea_
               subst ec_
               clear en_
               have p136 : 0 ≤ (x4_2 : Int) := of_decide_eq_true (by first | (with_reducible assumption) | assumption)
               have q136 : x4_2 < (((rd_T79 l0 x3_1).f0).length : Int) := of_decide_eq_true (by first | (with_reducible assumption) | assumption)
               obtain ⟨ad136, e136, hx136_0⟩ := Kd.at_int HR135_0.out x4_2 p136 q136
               have hw136_0 := hx136_0
               cases e136
               first | replace hx136_0 := (HB.out.cell (World.block_lt_of_cell? w _ hx136_0)).trans hx136_0 | skip
               replace p136 := eq_true p136
               replace q136 := eq_true q136
               have p137 : 0 ≤ (x3_1 : Int) := of_decide_eq_true (by first | (with_reducible assumption) | assumption)
               have q137 : x3_1 < (l0.length : Int) := of_decide_eq_true (by first | (with_reducible assumption) | assumption)
               obtain ⟨ad137, A137_0, c137_0, A137_1, c137_1, e137, hx137_0, hx137_1, hl137_0, hi137_0, hl137_1, hi137_1⟩ := at_T79 HR0.out x3_1 p137 q137
               have hw137_1 := hx137_1
               have hw137_0 := hx137_0
               obtain rfl : ad131 = ad137 := (by injection e137)
               first | replace hx137_0 := (HB.out.cell (World.block_lt_of_cell? w _ hx137_0)).trans hx137_0 | skip
               first | replace hx137_1 := (HB.out.cell (World.block_lt_of_cell? w _ hx137_1)).trans hx137_1 | skip
               have HR137_0 := Aside0.mk hi137_0
               have HC137_0 := Aside0.mk hl137_0
               clear hi137_0 hl137_0
               have HR137_1 := Aside0.mk hi137_1
               have HC137_1 := Aside0.mk hl137_1
               clear hi137_1 hl137_1
               replace p137 := eq_true p137
               replace q137 := eq_true q137
               have ea_ := Option.some.inj (hx132_0.symm.trans hx137_0)
               injection ea_ with ea_ en_ ec_
               subst ea_
               subst ec_
               clear en_
               have ea_ := Option.some.inj (hx132_1.symm.trans hx137_1)
               injection ea_ with ea_ en_ ec_
               subst ea_
               subst ec_
               clear en_
               have p138 : 0 ≤ ((ji10) : Int) := of_decide_eq_true (by first | (with_reducible assumption) | assumption)
               have q138 : (ji10) < (((rd_T79 l0 x3_1).f0).length : Int) := of_decide_eq_true (by first | (with_reducible assumption) | assumption)
               obtain ⟨ad138, e138, hx138_0⟩ := Kd.at_int HR137_0.out (ji10) p138 q138
               have hw138_0 := hx138_0
               cases e138
               first | replace hx138_0 := (HB.out.cell (World.block_lt_of_cell? w _ hx138_0)).trans hx138_0 | skip
               replace p138 := eq_true p138
               replace q138 := eq_true q138
               refine start_ (n := 36) (S := fun w' => w'.cell? (ad131.add ((x3_1).toNat * 2)) = some (.slice (some ad133) ((rd_T79 l0 x3_1).f0).length c132_0) ∧ w'.cell? ⟨(ad131.add ((x3_1).toNat * 2)).block, (ad131.add ((x3_1).toNat * 2)).off + 1, none⟩ = some (.slice A132_1 ((rd_T79 l0 x3_1).f1).length c132_1) ∧ w'.cell? (ad133.add (x4_2).toNat) = some (.int .i64 (rd ((rd_T79 l0 x3_1).f0) x4_2)) ∧ w'.cell? (ad131.add ((x3_1).toNat * 2)) = some (.slice (some ad133) ((rd_T79 l0 x3_1).f0).length c132_0) ∧ w'.cell? ⟨(ad131.add ((x3_1).toNat * 2)).block, (ad131.add ((x3_1).toNat * 2)).off + 1, none⟩ = some (.slice A132_1 ((rd_T79 l0 x3_1).f1).length c132_1) ∧ w'.cell? (ad133.add (x4_2).toNat) = some (.int .i64 (rd ((rd_T79 l0 x3_1).f0) x4_2)) ∧ w'.cell? (ad131.add ((x3_1).toNat * 2)) = some (.slice (some ad133) ((rd_T79 l0 x3_1).f0).length c132_0) ∧ w'.cell? ⟨(ad131.add ((x3_1).toNat * 2)).block, (ad131.add ((x3_1).toNat * 2)).off + 1, none⟩ = some (.slice A132_1 ((rd_T79 l0 x3_1).f1).length c132_1) ∧ w'.cell? (ad133.add ((ji10)).toNat) = some (.int .i64 (rd ((rd_T79 l0 x3_1).f0) (ji10)))) (ds := []) (mB 36 0) (by kernel_rfl) rfl rfl ⟨((HB.out.cell (World.block_lt_of_cell? w _ hw132_0)).trans hw132_0), ((HB.out.cell (World.block_lt_of_cell? w _ hw132_1)).trans hw132_1), ((HB.out.cell (World.block_lt_of_cell? w _ hw133_0)).trans hw133_0), ((HB.out.cell (World.block_lt_of_cell? w _ hw135_0)).trans hw135_0), ((HB.out.cell (World.block_lt_of_cell? w _ hw135_1)).trans hw135_1), ((HB.out.cell (World.block_lt_of_cell? w _ hw136_0)).trans hw136_0), ((HB.out.cell (World.block_lt_of_cell? w _ hw137_0)).trans hw137_0), ((HB.out.cell (World.block_lt_of_cell? w _ hw137_1)).trans hw137_1), ((HB.out.cell (World.block_lt_of_cell? w _ hw138_0)).trans hw138_0)⟩ (fun hHeld => ?_); refine with_tabW spec_WorldValid.tab7 spec_WorldValid.bits7 (fun HT_ HW_ => ?_)
               generalize wr.drew = w14 at HB HR132_0 HR132_1 HR135_0 HR135_1 HR137_0 HR137_1 hx132_0 hx132_1 hx133_0 hx135_0 hx135_1 hx136_0 hx137_0 hx137_1 hx138_0 hHeld ⊢
               refine pn 0 21 HT_.out ?_
               refine pn 1 22 HT_.out ?_
               refine pn 2 23 HT_.out ?_
               refine pn 3 24 HT_.out ?_
               refine pn 5 26 HT_.out ?_
               refine pn 8 29 HT_.out ?_
               refine pn 9 30 HT_.out ?_
               refine tk 4 25 HT_.out HW_.out hHeld ?_
               refine pn 6 27 HT_.out ?_
               refine tk 7 28 HT_.out HW_.out hHeld ?_
               refine on 10 31 HT_.out (fun K hK => ?_)
               refine gs Try.func59 #[.int .i64 (rd ((rd_T79 l0 x3_1).f0) x4_2), .int .i64 0, .int .i64 (wrap64 (x3_1 - 1))] ?_
               with_reducible refine (spec_l1In.calls (rd ((rd_T79 l0 x3_1).f0) x4_2) 0 (wrap64 (x3_1 - 1)) true _ A7.out).mono ?_
               rintro e w' ⟨rfl, ⟨nd, rfl⟩⟩
               refine ⟨_, rfl, ?_⟩
               refine hK.out _ _ ⟨((HB.out.cell (World.block_lt_of_cell? w _ hw132_0)).trans hw132_0), ((HB.out.cell (World.block_lt_of_cell? w _ hw132_1)).trans hw132_1), ((HB.out.cell (World.block_lt_of_cell? w _ hw133_0)).trans hw133_0), ((HB.out.cell (World.block_lt_of_cell? w _ hw135_0)).trans hw135_0), ((HB.out.cell (World.block_lt_of_cell? w _ hw135_1)).trans hw135_1), ((HB.out.cell (World.block_lt_of_cell? w _ hw136_0)).trans hw136_0), ((HB.out.cell (World.block_lt_of_cell? w _ hw137_0)).trans hw137_0), ((HB.out.cell (World.block_lt_of_cell? w _ hw137_1)).trans hw137_1), ((HB.out.cell (World.block_lt_of_cell? w _ hw138_0)).trans hw138_0)⟩ (fun hHeld => ?_)
               clear hK K
               refine nm (some 31) ?_
               refine pn 11 32 HT_.out ?_
               refine pn 12 33 HT_.out ?_
               refine pn 13 34 HT_.out ?_
               refine pn 14 35 HT_.out ?_
               refine pn 15 36 HT_.out ?_
               refine pn 16 37 HT_.out ?_
               refine pn 17 38 HT_.out ?_
               refine pn 18 39 HT_.out ?_
               refine pn 19 40 HT_.out ?_
               refine pn 21 42 HT_.out ?_
               refine pn 24 45 HT_.out ?_
               refine pn 25 46 HT_.out ?_
               refine pn 26 47 HT_.out ?_
               refine pn 27 48 HT_.out ?_
               refine pn 29 50 HT_.out ?_
               refine pn 30 51 HT_.out ?_
               refine tk 20 41 HT_.out HW_.out hHeld ?_
               refine pn 22 43 HT_.out ?_
               refine tk 23 44 HT_.out HW_.out hHeld ?_
               refine tk 28 49 HT_.out HW_.out hHeld ?_
               refine pn 31 52 HT_.out ?_
               refine tk 32 53 HT_.out HW_.out hHeld ?_
               refine pn 33 54 HT_.out ?_
               refine pn 34 55 HT_.out ?_
               refine pn 35 56 HT_.out ?_
               refine done_ (done_of HT_.out (by kernel_rfl)) ?_
               try go_wp2
               go_ret
               exact ⟨by first | rfl | (simp [errW_none, errW_some] <;> rfl) | (simp only [← hji10]; first | rfl | (simp [errW_none, errW_some] <;> rfl)) | (simp [*, errW_none, errW_some] <;> rfl), by exact bw HB.out⟩
              ·
               rw [if_neg c13] at H; have c13b0 : decide ((rd ((rd_T79 l0 x3_1).f0) x4_2) ≤ (rd ((rd_T79 l0 x3_1).f0) (ji10))) = false := decide_eq_false c13; clear c13
               have H' := Aside0.mk H
               clear H
               have p131 : 0 ≤ (x3_1 : Int) := of_decide_eq_true (by first | (with_reducible assumption) | assumption)
               have q131 : x3_1 < (l0.length : Int) := of_decide_eq_true (by first | (with_reducible assumption) | assumption)
               obtain ⟨ad131, A131_0, c131_0, A131_1, c131_1, e131, hx131_0, hx131_1, hl131_0, hi131_0, hl131_1, hi131_1⟩ := at_T79 HR0.out x3_1 p131 q131
               cases e131
               first | replace hx131_0 := (HB.out.cell (World.block_lt_of_cell? w _ hx131_0)).trans hx131_0 | skip
               first | replace hx131_1 := (HB.out.cell (World.block_lt_of_cell? w _ hx131_1)).trans hx131_1 | skip
               have HR131_0 := Aside0.mk hi131_0
               have HC131_0 := Aside0.mk hl131_0
               clear hi131_0 hl131_0
               have HR131_1 := Aside0.mk hi131_1
               have HC131_1 := Aside0.mk hl131_1
               clear hi131_1 hl131_1
               replace p131 := eq_true p131
               replace q131 := eq_true q131
               try go_wp2
               replace HB := Aside0.mk (below_drew1 HB.out)
               have p132 : 0 ≤ (x3_1 : Int) := of_decide_eq_true (by first | (with_reducible assumption) | assumption)
               have q132 : x3_1 < (l0.length : Int) := of_decide_eq_true (by first | (with_reducible assumption) | assumption)
               obtain ⟨ad132, A132_0, c132_0, A132_1, c132_1, e132, hx132_0, hx132_1, hl132_0, hi132_0, hl132_1, hi132_1⟩ := at_T79 HR0.out x3_1 p132 q132
               have hw132_1 := hx132_1
               have hw132_0 := hx132_0
               obtain rfl : ad131 = ad132 := (by injection e132)
               first | replace hx132_0 := (HB.out.cell (World.block_lt_of_cell? w _ hx132_0)).trans hx132_0 | skip
               first | replace hx132_1 := (HB.out.cell (World.block_lt_of_cell? w _ hx132_1)).trans hx132_1 | skip
               have HR132_0 := Aside0.mk hi132_0
               have HC132_0 := Aside0.mk hl132_0
               clear hi132_0 hl132_0
               have HR132_1 := Aside0.mk hi132_1
               have HC132_1 := Aside0.mk hl132_1
               clear hi132_1 hl132_1
               replace p132 := eq_true p132
               replace q132 := eq_true q132
               have p133 : 0 ≤ (x4_2 : Int) := of_decide_eq_true (by first | (with_reducible assumption) | assumption)
               have q133 : x4_2 < (((rd_T79 l0 x3_1).f0).length : Int) := of_decide_eq_true (by first | (with_reducible assumption) | assumption)
               obtain ⟨ad133, e133, hx133_0⟩ := Kd.at_int HR132_0.out x4_2 p133 q133
               have hw133_0 := hx133_0
               cases e133
               first | replace hx133_0 := (HB.out.cell (World.block_lt_of_cell? w _ hx133_0)).trans hx133_0 | skip
               replace p133 := eq_true p133
               replace q133 := eq_true q133
               have p135 : 0 ≤ (x3_1 : Int) := of_decide_eq_true (by first | (with_reducible assumption) | assumption)
               have q135 : x3_1 < (l0.length : Int) := of_decide_eq_true (by first | (with_reducible assumption) | assumption)
               obtain ⟨ad135, A135_0, c135_0, A135_1, c135_1, e135, hx135_0, hx135_1, hl135_0, hi135_0, hl135_1, hi135_1⟩ := at_T79 HR0.out x3_1 p135 q135
               have hw135_1 := hx135_1
               have hw135_0 := hx135_0
               obtain rfl : ad131 = ad135 := (by injection e135)
               first | replace hx135_0 := (HB.out.cell (World.block_lt_of_cell? w _ hx135_0)).trans hx135_0 | skip
               first | replace hx135_1 := (HB.out.cell (World.block_lt_of_cell? w _ hx135_1)).trans hx135_1 | skip
               have HR135_0 := Aside0.mk hi135_0
               have HC135_0 := Aside0.mk hl135_0
               clear hi135_0 hl135_0
               have HR135_1 := Aside0.mk hi135_1
               have HC135_1 := Aside0.mk hl135_1
               clear hi135_1 hl135_1
               replace p135 := eq_true p135
               replace q135 := eq_true q135
               have ea_ := Option.some.inj (hx132_0.symm.trans hx135_0)
               injection ea_ with ea_ en_ ec_
               subst ea_
               subst ec_
               clear en_
               have ea_ := Option.some.inj (hx132_1.symm.trans hx135_1)
               injection ea_ with ea_ en_ ec_
               subst ea_
               subst ec_
               clear en_
               have p136 : 0 ≤ (x4_2 : Int) := of_decide_eq_true (by first | (with_reducible assumption) | assumption)
               have q136 : x4_2 < (((rd_T79 l0 x3_1).f0).length : Int) := of_decide_eq_true (by first | (with_reducible assumption) | assumption)
               obtain ⟨ad136, e136, hx136_0⟩ := Kd.at_int HR135_0.out x4_2 p136 q136
               have hw136_0 := hx136_0
               cases e136
               first | replace hx136_0 := (HB.out.cell (World.block_lt_of_cell? w _ hx136_0)).trans hx136_0 | skip
               replace p136 := eq_true p136
               replace q136 := eq_true q136
               have p137 : 0 ≤ (x3_1 : Int) := of_decide_eq_true (by first | (with_reducible assumption) | assumption)
               have q137 : x3_1 < (l0.length : Int) := of_decide_eq_true (by first | (with_reducible assumption) | assumption)
               obtain ⟨ad137, A137_0, c137_0, A137_1, c137_1, e137, hx137_0, hx137_1, hl137_0, hi137_0, hl137_1, hi137_1⟩ := at_T79 HR0.out x3_1 p137 q137
               have hw137_1 := hx137_1
               have hw137_0 := hx137_0
               obtain rfl : ad131 = ad137 := (by injection e137)
               first | replace hx137_0 := (HB.out.cell (World.block_lt_of_cell? w _ hx137_0)).trans hx137_0 | skip
               first | replace hx137_1 := (HB.out.cell (World.block_lt_of_cell? w _ hx137_1)).trans hx137_1 | skip
               have HR137_0 := Aside0.mk hi137_0
               have HC137_0 := Aside0.mk hl137_0
               clear hi137_0 hl137_0
               have HR137_1 := Aside0.mk hi137_1
               have HC137_1 := Aside0.mk hl137_1
               clear hi137_1 hl137_1
               replace p137 := eq_true p137
               replace q137 := eq_true q137
               have ea_ := Option.some.inj (hx132_0.symm.trans hx137_0)
               injection ea_ with ea_ en_ ec_
               subst ea_
               subst ec_
               clear en_
               have ea_ := Option.some.inj (hx132_1.symm.trans hx137_1)
               injection ea_ with ea_ en_ ec_
               subst ea_
               subst ec_
               clear en_
               have p138 : 0 ≤ ((ji10) : Int) := of_decide_eq_true (by first | (with_reducible assumption) | assumption)
               have q138 : (ji10) < (((rd_T79 l0 x3_1).f0).length : Int) := of_decide_eq_true (by first | (with_reducible assumption) | assumption)
               obtain ⟨ad138, e138, hx138_0⟩ := Kd.at_int HR137_0.out (ji10) p138 q138
               have hw138_0 := hx138_0
               cases e138
               first | replace hx138_0 := (HB.out.cell (World.block_lt_of_cell? w _ hx138_0)).trans hx138_0 | skip
               replace p138 := eq_true p138
               replace q138 := eq_true q138
               refine start_ (n := 36) (S := fun w' => w'.cell? (ad131.add ((x3_1).toNat * 2)) = some (.slice (some ad133) ((rd_T79 l0 x3_1).f0).length c132_0) ∧ w'.cell? ⟨(ad131.add ((x3_1).toNat * 2)).block, (ad131.add ((x3_1).toNat * 2)).off + 1, none⟩ = some (.slice A132_1 ((rd_T79 l0 x3_1).f1).length c132_1) ∧ w'.cell? (ad133.add (x4_2).toNat) = some (.int .i64 (rd ((rd_T79 l0 x3_1).f0) x4_2)) ∧ w'.cell? (ad131.add ((x3_1).toNat * 2)) = some (.slice (some ad133) ((rd_T79 l0 x3_1).f0).length c132_0) ∧ w'.cell? ⟨(ad131.add ((x3_1).toNat * 2)).block, (ad131.add ((x3_1).toNat * 2)).off + 1, none⟩ = some (.slice A132_1 ((rd_T79 l0 x3_1).f1).length c132_1) ∧ w'.cell? (ad133.add (x4_2).toNat) = some (.int .i64 (rd ((rd_T79 l0 x3_1).f0) x4_2)) ∧ w'.cell? (ad131.add ((x3_1).toNat * 2)) = some (.slice (some ad133) ((rd_T79 l0 x3_1).f0).length c132_0) ∧ w'.cell? ⟨(ad131.add ((x3_1).toNat * 2)).block, (ad131.add ((x3_1).toNat * 2)).off + 1, none⟩ = some (.slice A132_1 ((rd_T79 l0 x3_1).f1).length c132_1) ∧ w'.cell? (ad133.add ((ji10)).toNat) = some (.int .i64 (rd ((rd_T79 l0 x3_1).f0) (ji10)))) (ds := []) (mB 36 0) (by kernel_rfl) rfl rfl ⟨((HB.out.cell (World.block_lt_of_cell? w _ hw132_0)).trans hw132_0), ((HB.out.cell (World.block_lt_of_cell? w _ hw132_1)).trans hw132_1), ((HB.out.cell (World.block_lt_of_cell? w _ hw133_0)).trans hw133_0), ((HB.out.cell (World.block_lt_of_cell? w _ hw135_0)).trans hw135_0), ((HB.out.cell (World.block_lt_of_cell? w _ hw135_1)).trans hw135_1), ((HB.out.cell (World.block_lt_of_cell? w _ hw136_0)).trans hw136_0), ((HB.out.cell (World.block_lt_of_cell? w _ hw137_0)).trans hw137_0), ((HB.out.cell (World.block_lt_of_cell? w _ hw137_1)).trans hw137_1), ((HB.out.cell (World.block_lt_of_cell? w _ hw138_0)).trans hw138_0)⟩ (fun hHeld => ?_); refine with_tabW spec_WorldValid.tab7 spec_WorldValid.bits7 (fun HT_ HW_ => ?_)
               generalize wr.drew = w15 at HB HR132_0 HR132_1 HR135_0 HR135_1 HR137_0 HR137_1 hx132_0 hx132_1 hx133_0 hx135_0 hx135_1 hx136_0 hx137_0 hx137_1 hx138_0 hHeld ⊢
               refine pn 0 21 HT_.out ?_
               refine pn 1 22 HT_.out ?_
               refine pn 2 23 HT_.out ?_
               refine pn 3 24 HT_.out ?_
               refine pn 5 26 HT_.out ?_
               refine pn 8 29 HT_.out ?_
               refine pn 9 30 HT_.out ?_
               refine tk 4 25 HT_.out HW_.out hHeld ?_
               refine pn 6 27 HT_.out ?_
               refine tk 7 28 HT_.out HW_.out hHeld ?_
               refine on 10 31 HT_.out (fun K hK => ?_)
               refine gs Try.func59 #[.int .i64 (rd ((rd_T79 l0 x3_1).f0) x4_2), .int .i64 0, .int .i64 (wrap64 (x3_1 - 1))] ?_
               with_reducible refine (spec_l1In.calls (rd ((rd_T79 l0 x3_1).f0) x4_2) 0 (wrap64 (x3_1 - 1)) true _ A7.out).mono ?_
               rintro e w' ⟨rfl, ⟨nd, rfl⟩⟩
               refine ⟨_, rfl, ?_⟩
               refine hK.out _ _ ⟨((HB.out.cell (World.block_lt_of_cell? w _ hw132_0)).trans hw132_0), ((HB.out.cell (World.block_lt_of_cell? w _ hw132_1)).trans hw132_1), ((HB.out.cell (World.block_lt_of_cell? w _ hw133_0)).trans hw133_0), ((HB.out.cell (World.block_lt_of_cell? w _ hw135_0)).trans hw135_0), ((HB.out.cell (World.block_lt_of_cell? w _ hw135_1)).trans hw135_1), ((HB.out.cell (World.block_lt_of_cell? w _ hw136_0)).trans hw136_0), ((HB.out.cell (World.block_lt_of_cell? w _ hw137_0)).trans hw137_0), ((HB.out.cell (World.block_lt_of_cell? w _ hw137_1)).trans hw137_1), ((HB.out.cell (World.block_lt_of_cell? w _ hw138_0)).trans hw138_0)⟩ (fun hHeld => ?_)
               clear hK K
               refine nm (some 31) ?_
               refine pn 11 32 HT_.out ?_
               refine pn 12 33 HT_.out ?_
               refine pn 13 34 HT_.out ?_
               refine pn 14 35 HT_.out ?_
               refine pn 15 36 HT_.out ?_
               refine pn 16 37 HT_.out ?_
               refine pn 17 38 HT_.out ?_
               refine pn 18 39 HT_.out ?_
               refine pn 19 40 HT_.out ?_
               refine pn 21 42 HT_.out ?_
               refine pn 24 45 HT_.out ?_
               refine pn 25 46 HT_.out ?_
               refine pn 26 47 HT_.out ?_
               refine pn 27 48 HT_.out ?_
               refine pn 29 50 HT_.out ?_
               refine pn 30 51 HT_.out ?_
               refine tk 20 41 HT_.out HW_.out hHeld ?_
               refine pn 22 43 HT_.out ?_
               refine tk 23 44 HT_.out HW_.out hHeld ?_
               refine tk 28 49 HT_.out HW_.out hHeld ?_
               refine pn 31 52 HT_.out ?_
               refine tk 32 53 HT_.out HW_.out hHeld ?_
               refine pn 33 54 HT_.out ?_
               refine pn 34 55 HT_.out ?_
               refine pn 35 56 HT_.out ?_
               refine done_ (done_of HT_.out (by kernel_rfl)) ?_
               try go_wp2
               go_roundg k2
               case measure => have := HK1.out; have := HK2.out; omega
               case rel => exact ⟨(wrap64 (x4_2 + 1)), (by first | rfl | (simp; done) | (simp [*]; done)), H', ⟨by have := HK1.out; have := HK2.out; omega⟩, ⟨by exact bw HB.out⟩⟩
             ·
              rw [if_neg c12] at H; exact absurd H (by simp)
            ·
             rw [if_neg c11] at H; exact absurd H (by simp)
           ·
            rw [if_neg c9] at H; have c9b0 : decide (0 < x4_2) = false := decide_eq_false c9; clear c9
            have H' := Aside0.mk H
            clear H
            have p131 : 0 ≤ (x3_1 : Int) := of_decide_eq_true (by first | (with_reducible assumption) | assumption)
            have q131 : x3_1 < (l0.length : Int) := of_decide_eq_true (by first | (with_reducible assumption) | assumption)
            obtain ⟨ad131, A131_0, c131_0, A131_1, c131_1, e131, hx131_0, hx131_1, hl131_0, hi131_0, hl131_1, hi131_1⟩ := at_T79 HR0.out x3_1 p131 q131
            cases e131
            first | replace hx131_0 := (HB.out.cell (World.block_lt_of_cell? w _ hx131_0)).trans hx131_0 | skip
            first | replace hx131_1 := (HB.out.cell (World.block_lt_of_cell? w _ hx131_1)).trans hx131_1 | skip
            have HR131_0 := Aside0.mk hi131_0
            have HC131_0 := Aside0.mk hl131_0
            clear hi131_0 hl131_0
            have HR131_1 := Aside0.mk hi131_1
            have HC131_1 := Aside0.mk hl131_1
            clear hi131_1 hl131_1
            replace p131 := eq_true p131
            replace q131 := eq_true q131
            try go_wp2
            replace HB := Aside0.mk (below_drew1 HB.out)
            have p132 : 0 ≤ (x3_1 : Int) := of_decide_eq_true (by first | (with_reducible assumption) | assumption)
            have q132 : x3_1 < (l0.length : Int) := of_decide_eq_true (by first | (with_reducible assumption) | assumption)
            obtain ⟨ad132, A132_0, c132_0, A132_1, c132_1, e132, hx132_0, hx132_1, hl132_0, hi132_0, hl132_1, hi132_1⟩ := at_T79 HR0.out x3_1 p132 q132
            have hw132_1 := hx132_1
            have hw132_0 := hx132_0
            obtain rfl : ad131 = ad132 := (by injection e132)
            first | replace hx132_0 := (HB.out.cell (World.block_lt_of_cell? w _ hx132_0)).trans hx132_0 | skip
            first | replace hx132_1 := (HB.out.cell (World.block_lt_of_cell? w _ hx132_1)).trans hx132_1 | skip
            have HR132_0 := Aside0.mk hi132_0
            have HC132_0 := Aside0.mk hl132_0
            clear hi132_0 hl132_0
            have HR132_1 := Aside0.mk hi132_1
            have HC132_1 := Aside0.mk hl132_1
            clear hi132_1 hl132_1
            replace p132 := eq_true p132
            replace q132 := eq_true q132
            have p133 : 0 ≤ (x4_2 : Int) := of_decide_eq_true (by first | (with_reducible assumption) | assumption)
            have q133 : x4_2 < (((rd_T79 l0 x3_1).f0).length : Int) := of_decide_eq_true (by first | (with_reducible assumption) | assumption)
            obtain ⟨ad133, e133, hx133_0⟩ := Kd.at_int HR132_0.out x4_2 p133 q133
            have hw133_0 := hx133_0
            cases e133
            first | replace hx133_0 := (HB.out.cell (World.block_lt_of_cell? w _ hx133_0)).trans hx133_0 | skip
            replace p133 := eq_true p133
            replace q133 := eq_true q133
            refine start_ (n := 36) (S := fun w' => w'.cell? (ad131.add ((x3_1).toNat * 2)) = some (.slice (some ad133) ((rd_T79 l0 x3_1).f0).length c132_0) ∧ w'.cell? ⟨(ad131.add ((x3_1).toNat * 2)).block, (ad131.add ((x3_1).toNat * 2)).off + 1, none⟩ = some (.slice A132_1 ((rd_T79 l0 x3_1).f1).length c132_1) ∧ w'.cell? (ad133.add (x4_2).toNat) = some (.int .i64 (rd ((rd_T79 l0 x3_1).f0) x4_2))) (ds := []) (mB 36 0) (by kernel_rfl) rfl rfl ⟨((HB.out.cell (World.block_lt_of_cell? w _ hw132_0)).trans hw132_0), ((HB.out.cell (World.block_lt_of_cell? w _ hw132_1)).trans hw132_1), ((HB.out.cell (World.block_lt_of_cell? w _ hw133_0)).trans hw133_0)⟩ (fun hHeld => ?_); refine with_tabW spec_WorldValid.tab7 spec_WorldValid.bits7 (fun HT_ HW_ => ?_)
            generalize wr.drew = w16 at HB HR132_0 HR132_1 hx132_0 hx132_1 hx133_0 hHeld ⊢
            refine pn 0 21 HT_.out ?_
            refine pn 1 22 HT_.out ?_
            refine pn 2 23 HT_.out ?_
            refine pn 3 24 HT_.out ?_
            refine pn 5 26 HT_.out ?_
            refine pn 8 29 HT_.out ?_
            refine pn 9 30 HT_.out ?_
            refine tk 4 25 HT_.out HW_.out hHeld ?_
            refine pn 6 27 HT_.out ?_
            refine tk 7 28 HT_.out HW_.out hHeld ?_
            refine on 10 31 HT_.out (fun K hK => ?_)
            refine gs Try.func59 #[.int .i64 (rd ((rd_T79 l0 x3_1).f0) x4_2), .int .i64 0, .int .i64 (wrap64 (x3_1 - 1))] ?_
            with_reducible refine (spec_l1In.calls (rd ((rd_T79 l0 x3_1).f0) x4_2) 0 (wrap64 (x3_1 - 1)) true _ A7.out).mono ?_
            rintro e w' ⟨rfl, ⟨nd, rfl⟩⟩
            refine ⟨_, rfl, ?_⟩
            refine hK.out _ _ ⟨((HB.out.cell (World.block_lt_of_cell? w _ hw132_0)).trans hw132_0), ((HB.out.cell (World.block_lt_of_cell? w _ hw132_1)).trans hw132_1), ((HB.out.cell (World.block_lt_of_cell? w _ hw133_0)).trans hw133_0)⟩ (fun hHeld => ?_)
            clear hK K
            refine nm (some 31) ?_
            refine pn 11 32 HT_.out ?_
            refine pn 12 33 HT_.out ?_
            refine pn 13 34 HT_.out ?_
            refine pn 14 35 HT_.out ?_
            refine pn 15 36 HT_.out ?_
            refine pf 16 37 HT_.out ?_
            refine pf 17 38 HT_.out ?_
            refine pf 18 39 HT_.out ?_
            refine pf 19 40 HT_.out ?_
            refine pf 20 41 HT_.out ?_
            refine pf 21 42 HT_.out ?_
            refine pf 22 43 HT_.out ?_
            refine pf 23 44 HT_.out ?_
            refine pf 24 45 HT_.out ?_
            refine pf 25 46 HT_.out ?_
            refine pf 26 47 HT_.out ?_
            refine pf 27 48 HT_.out ?_
            refine pf 28 49 HT_.out ?_
            refine pf 29 50 HT_.out ?_
            refine pf 30 51 HT_.out ?_
            refine pf 31 52 HT_.out ?_
            refine pf 32 53 HT_.out ?_
            refine pf 33 54 HT_.out ?_
            refine pn 34 55 HT_.out ?_
            refine pn 35 56 HT_.out ?_
            refine done_ (done_of HT_.out (by kernel_rfl)) ?_
            try go_wp2
            go_roundg k2
            case measure => have := HK1.out; have := HK2.out; omega
            case rel => exact ⟨(wrap64 (x4_2 + 1)), (by first | rfl | (simp; done) | (simp [*]; done)), H', ⟨by have := HK1.out; have := HK2.out; omega⟩, ⟨by exact bw HB.out⟩⟩
          ·
           replace c8 := Bool.eq_false_iff.mpr c8
           subst c8
           have H1 : (some false) = some r := by rw [if_neg (show ¬ (false = true) by decide)] at H; exact H
           clear H
           have H := H1
           clear H1
           obtain rfl := Option.some.inj H
           have p131 : 0 ≤ (x3_1 : Int) := of_decide_eq_true (by first | (with_reducible assumption) | assumption)
           have q131 : x3_1 < (l0.length : Int) := of_decide_eq_true (by first | (with_reducible assumption) | assumption)
           obtain ⟨ad131, A131_0, c131_0, A131_1, c131_1, e131, hx131_0, hx131_1, hl131_0, hi131_0, hl131_1, hi131_1⟩ := at_T79 HR0.out x3_1 p131 q131
           cases e131
           first | replace hx131_0 := (HB.out.cell (World.block_lt_of_cell? w _ hx131_0)).trans hx131_0 | skip
           first | replace hx131_1 := (HB.out.cell (World.block_lt_of_cell? w _ hx131_1)).trans hx131_1 | skip
           have HR131_0 := Aside0.mk hi131_0
           have HC131_0 := Aside0.mk hl131_0
           clear hi131_0 hl131_0
           have HR131_1 := Aside0.mk hi131_1
           have HC131_1 := Aside0.mk hl131_1
           clear hi131_1 hl131_1
           replace p131 := eq_true p131
           replace q131 := eq_true q131
           try go_wp2
           replace HB := Aside0.mk (below_drew1 HB.out)
           have p132 : 0 ≤ (x3_1 : Int) := of_decide_eq_true (by first | (with_reducible assumption) | assumption)
           have q132 : x3_1 < (l0.length : Int) := of_decide_eq_true (by first | (with_reducible assumption) | assumption)
           obtain ⟨ad132, A132_0, c132_0, A132_1, c132_1, e132, hx132_0, hx132_1, hl132_0, hi132_0, hl132_1, hi132_1⟩ := at_T79 HR0.out x3_1 p132 q132
           have hw132_1 := hx132_1
           have hw132_0 := hx132_0
           obtain rfl : ad131 = ad132 := (by injection e132)
           first | replace hx132_0 := (HB.out.cell (World.block_lt_of_cell? w _ hx132_0)).trans hx132_0 | skip
           first | replace hx132_1 := (HB.out.cell (World.block_lt_of_cell? w _ hx132_1)).trans hx132_1 | skip
           have HR132_0 := Aside0.mk hi132_0
           have HC132_0 := Aside0.mk hl132_0
           clear hi132_0 hl132_0
           have HR132_1 := Aside0.mk hi132_1
           have HC132_1 := Aside0.mk hl132_1
           clear hi132_1 hl132_1
           replace p132 := eq_true p132
           replace q132 := eq_true q132
           have p133 : 0 ≤ (x4_2 : Int) := of_decide_eq_true (by first | (with_reducible assumption) | assumption)
           have q133 : x4_2 < (((rd_T79 l0 x3_1).f0).length : Int) := of_decide_eq_true (by first | (with_reducible assumption) | assumption)
           obtain ⟨ad133, e133, hx133_0⟩ := Kd.at_int HR132_0.out x4_2 p133 q133
           have hw133_0 := hx133_0
           cases e133
           first | replace hx133_0 := (HB.out.cell (World.block_lt_of_cell? w _ hx133_0)).trans hx133_0 | skip
           replace p133 := eq_true p133
           replace q133 := eq_true q133
           refine start_ (n := 36) (S := fun w' => w'.cell? (ad131.add ((x3_1).toNat * 2)) = some (.slice (some ad133) ((rd_T79 l0 x3_1).f0).length c132_0) ∧ w'.cell? ⟨(ad131.add ((x3_1).toNat * 2)).block, (ad131.add ((x3_1).toNat * 2)).off + 1, none⟩ = some (.slice A132_1 ((rd_T79 l0 x3_1).f1).length c132_1) ∧ w'.cell? (ad133.add (x4_2).toNat) = some (.int .i64 (rd ((rd_T79 l0 x3_1).f0) x4_2))) (ds := []) (mB 36 0) (by kernel_rfl) rfl rfl ⟨((HB.out.cell (World.block_lt_of_cell? w _ hw132_0)).trans hw132_0), ((HB.out.cell (World.block_lt_of_cell? w _ hw132_1)).trans hw132_1), ((HB.out.cell (World.block_lt_of_cell? w _ hw133_0)).trans hw133_0)⟩ (fun hHeld => ?_); refine with_tabW spec_WorldValid.tab7 spec_WorldValid.bits7 (fun HT_ HW_ => ?_)
           generalize wr.drew = w17 at HB HR132_0 HR132_1 hx132_0 hx132_1 hx133_0 hHeld ⊢
           refine pn 0 21 HT_.out ?_
           refine pn 1 22 HT_.out ?_
           refine pn 2 23 HT_.out ?_
           refine pn 3 24 HT_.out ?_
           refine pn 5 26 HT_.out ?_
           refine pn 8 29 HT_.out ?_
           refine pn 9 30 HT_.out ?_
           refine tk 4 25 HT_.out HW_.out hHeld ?_
           refine pn 6 27 HT_.out ?_
           refine tk 7 28 HT_.out HW_.out hHeld ?_
           refine on 10 31 HT_.out (fun K hK => ?_)
           refine gs Try.func59 #[.int .i64 (rd ((rd_T79 l0 x3_1).f0) x4_2), .int .i64 0, .int .i64 (wrap64 (x3_1 - 1))] ?_
           with_reducible refine (spec_l1In.calls (rd ((rd_T79 l0 x3_1).f0) x4_2) 0 (wrap64 (x3_1 - 1)) false _ A7.out).mono ?_
           rintro e w' ⟨rfl, ⟨nd, rfl⟩⟩
           refine ⟨_, rfl, ?_⟩
           refine hK.out _ _ ⟨((HB.out.cell (World.block_lt_of_cell? w _ hw132_0)).trans hw132_0), ((HB.out.cell (World.block_lt_of_cell? w _ hw132_1)).trans hw132_1), ((HB.out.cell (World.block_lt_of_cell? w _ hw133_0)).trans hw133_0)⟩ (fun hHeld => ?_)
           clear hK K
           refine nm (some 31) ?_
           refine pn 11 32 HT_.out ?_
           refine pn 12 33 HT_.out ?_
           refine pf 13 34 HT_.out ?_
           refine pf 14 35 HT_.out ?_
           refine pf 15 36 HT_.out ?_
           refine pf 16 37 HT_.out ?_
           refine pf 17 38 HT_.out ?_
           refine pf 18 39 HT_.out ?_
           refine pf 19 40 HT_.out ?_
           refine pf 20 41 HT_.out ?_
           refine pf 21 42 HT_.out ?_
           refine pf 22 43 HT_.out ?_
           refine pf 23 44 HT_.out ?_
           refine pf 24 45 HT_.out ?_
           refine pf 25 46 HT_.out ?_
           refine pf 26 47 HT_.out ?_
           refine pf 27 48 HT_.out ?_
           refine pf 28 49 HT_.out ?_
           refine pf 29 50 HT_.out ?_
           refine pf 30 51 HT_.out ?_
           refine pf 31 52 HT_.out ?_
           refine pf 32 53 HT_.out ?_
           refine pf 33 54 HT_.out ?_
           refine pf 34 55 HT_.out ?_
           refine pn 35 56 HT_.out ?_
           refine done_ (done_of HT_.out (by kernel_rfl)) ?_
           try go_wp2
           go_ret
           exact ⟨by first | rfl | (simp [errW_none, errW_some] <;> rfl) | (simp [*, errW_none, errW_some] <;> rfl), by exact bw HB.out⟩
         ·
          rw [if_neg c6] at H; exact absurd H (by simp)
        ·
         rw [if_neg c5] at H; have c5b0 : decide (x4_2 < (((rd_T79 l0 x3_1).f0).length : Int)) = false := decide_eq_false c5; clear c5
         replace H := Option.bind_eq_some_iff.mp H
         obtain ⟨t140, A180, H⟩ := H
         replace H : (if t140 = true then (spec_WorldValid.l0 k2 l0 (wrap64 (x3_1 + 1))) else (some false)) = some r := H
         have A18 := Aside0.mk A180
         clear A180
         by_cases c19 : t140 = true
         ·
          subst c19
          have H1 : (spec_WorldValid.l0 k2 l0 (wrap64 (x3_1 + 1))) = some r := by rw [if_pos rfl] at H; exact H
          clear H
          have H := H1
          clear H1
          have H' := Aside0.mk H
          clear H
          have p131 : 0 ≤ (x3_1 : Int) := of_decide_eq_true (by first | (with_reducible assumption) | assumption)
          have q131 : x3_1 < (l0.length : Int) := of_decide_eq_true (by first | (with_reducible assumption) | assumption)
          obtain ⟨ad131, A131_0, c131_0, A131_1, c131_1, e131, hx131_0, hx131_1, hl131_0, hi131_0, hl131_1, hi131_1⟩ := at_T79 HR0.out x3_1 p131 q131
          cases e131
          first | replace hx131_0 := (HB.out.cell (World.block_lt_of_cell? w _ hx131_0)).trans hx131_0 | skip
          first | replace hx131_1 := (HB.out.cell (World.block_lt_of_cell? w _ hx131_1)).trans hx131_1 | skip
          have HR131_0 := Aside0.mk hi131_0
          have HC131_0 := Aside0.mk hl131_0
          clear hi131_0 hl131_0
          have HR131_1 := Aside0.mk hi131_1
          have HC131_1 := Aside0.mk hl131_1
          clear hi131_1 hl131_1
          replace p131 := eq_true p131
          replace q131 := eq_true q131
          have p139 : 0 ≤ (x3_1 : Int) := of_decide_eq_true (by first | (with_reducible assumption) | assumption)
          have q139 : x3_1 < (l0.length : Int) := of_decide_eq_true (by first | (with_reducible assumption) | assumption)
          obtain ⟨ad139, A139_0, c139_0, A139_1, c139_1, e139, hx139_0, hx139_1, hl139_0, hi139_0, hl139_1, hi139_1⟩ := at_T79 HR0.out x3_1 p139 q139
          obtain rfl : ad131 = ad139 := (by injection e139)
          first | replace hx139_0 := (HB.out.cell (World.block_lt_of_cell? w _ hx139_0)).trans hx139_0 | skip
          first | replace hx139_1 := (HB.out.cell (World.block_lt_of_cell? w _ hx139_1)).trans hx139_1 | skip
          have HR139_0 := Aside0.mk hi139_0
          have HC139_0 := Aside0.mk hl139_0
          clear hi139_0 hl139_0
          have HR139_1 := Aside0.mk hi139_1
          have HC139_1 := Aside0.mk hl139_1
          clear hi139_1 hl139_1
          replace p139 := eq_true p139
          replace q139 := eq_true q139
          have ea_ := Option.some.inj (hx131_0.symm.trans hx139_0)
          injection ea_ with ea_ en_ ec_
          subst ea_
          subst ec_
          clear en_
          have ea_ := Option.some.inj (hx131_1.symm.trans hx139_1)
          injection ea_ with ea_ en_ ec_
          subst ea_
          subst ec_
          clear en_
          go_wp2_with (first | ((with_reducible refine gate_callee (f := 60) rfl ?_); refine gl (some 64) Try.func60 #[.slice A131_1 ((rd_T79 l0 x3_1).f1).length c131_1, .int .i64 (l0.length : Int)] ?_; (with_reducible refine (spec_l2Fields.calls k2 _ _ ((rd_T79 l0 x3_1).f1) (l0.length : Int) true _ ?side1 ?side2 A18.out).mono ?_); (case side1 => repeat (first | exact (Kd.C_below HR139_1.out HB.out) | (with_reducible refine Kd.C_alloc ?_ _) | (with_reducible refine Kd.C_drewN ?_ _) | (with_reducible refine Kd.C_drew ?_))); (case side2 => exact HC139_1.out); rintro e w20 ⟨rfl, hb⟩; refine ⟨_, rfl, ?_⟩; replace HB := bS HB hb; (try clear hb); (try clear hb2); (try clear hk); (try clear hi)))
          go_roundg k2
          case measure => have := HK1.out; have := HK2.out; omega
          case rel => exact ⟨(wrap64 (x3_1 + 1)), (by first | rfl | (simp; done) | (simp [*]; done)), H', ⟨by have := HK1.out; have := HK2.out; omega⟩, ⟨by exact bw HB.out⟩⟩
         ·
          replace c19 := Bool.eq_false_iff.mpr c19
          subst c19
          have H1 : (some false) = some r := by rw [if_neg (show ¬ (false = true) by decide)] at H; exact H
          clear H
          have H := H1
          clear H1
          obtain rfl := Option.some.inj H
          have p131 : 0 ≤ (x3_1 : Int) := of_decide_eq_true (by first | (with_reducible assumption) | assumption)
          have q131 : x3_1 < (l0.length : Int) := of_decide_eq_true (by first | (with_reducible assumption) | assumption)
          obtain ⟨ad131, A131_0, c131_0, A131_1, c131_1, e131, hx131_0, hx131_1, hl131_0, hi131_0, hl131_1, hi131_1⟩ := at_T79 HR0.out x3_1 p131 q131
          cases e131
          first | replace hx131_0 := (HB.out.cell (World.block_lt_of_cell? w _ hx131_0)).trans hx131_0 | skip
          first | replace hx131_1 := (HB.out.cell (World.block_lt_of_cell? w _ hx131_1)).trans hx131_1 | skip
          have HR131_0 := Aside0.mk hi131_0
          have HC131_0 := Aside0.mk hl131_0
          clear hi131_0 hl131_0
          have HR131_1 := Aside0.mk hi131_1
          have HC131_1 := Aside0.mk hl131_1
          clear hi131_1 hl131_1
          replace p131 := eq_true p131
          replace q131 := eq_true q131
          have p139 : 0 ≤ (x3_1 : Int) := of_decide_eq_true (by first | (with_reducible assumption) | assumption)
          have q139 : x3_1 < (l0.length : Int) := of_decide_eq_true (by first | (with_reducible assumption) | assumption)
          obtain ⟨ad139, A139_0, c139_0, A139_1, c139_1, e139, hx139_0, hx139_1, hl139_0, hi139_0, hl139_1, hi139_1⟩ := at_T79 HR0.out x3_1 p139 q139
          obtain rfl : ad131 = ad139 := (by injection e139)
          first | replace hx139_0 := (HB.out.cell (World.block_lt_of_cell? w _ hx139_0)).trans hx139_0 | skip
          first | replace hx139_1 := (HB.out.cell (World.block_lt_of_cell? w _ hx139_1)).trans hx139_1 | skip
          have HR139_0 := Aside0.mk hi139_0
          have HC139_0 := Aside0.mk hl139_0
          clear hi139_0 hl139_0
          have HR139_1 := Aside0.mk hi139_1
          have HC139_1 := Aside0.mk hl139_1
          clear hi139_1 hl139_1
          replace p139 := eq_true p139
          replace q139 := eq_true q139
          have ea_ := Option.some.inj (hx131_0.symm.trans hx139_0)
          injection ea_ with ea_ en_ ec_
          subst ea_
          subst ec_
          clear en_
          have ea_ := Option.some.inj (hx131_1.symm.trans hx139_1)
          injection ea_ with ea_ en_ ec_
          subst ea_
          subst ec_
          clear en_
          go_wp2_with (first | ((with_reducible refine gate_callee (f := 60) rfl ?_); refine gl (some 64) Try.func60 #[.slice A131_1 ((rd_T79 l0 x3_1).f1).length c131_1, .int .i64 (l0.length : Int)] ?_; (with_reducible refine (spec_l2Fields.calls k2 _ _ ((rd_T79 l0 x3_1).f1) (l0.length : Int) false _ ?side1 ?side2 A18.out).mono ?_); (case side1 => repeat (first | exact (Kd.C_below HR139_1.out HB.out) | (with_reducible refine Kd.C_alloc ?_ _) | (with_reducible refine Kd.C_drewN ?_ _) | (with_reducible refine Kd.C_drew ?_))); (case side2 => exact HC139_1.out); rintro e w21 ⟨rfl, hb⟩; refine ⟨_, rfl, ?_⟩; replace HB := bS HB hb; (try clear hb); (try clear hb2); (try clear hk); (try clear hi)))
          go_ret
          exact ⟨by first | rfl | (simp [errW_none, errW_some] <;> rfl) | (simp [*, errW_none, errW_some] <;> rfl), by exact bw HB.out⟩
       ·
        rw [if_neg c4] at H; exact absurd H (by simp)
      ·
       rw [if_neg c3] at H; exact absurd H (by simp)
   ·
    rw [if_neg c2] at H; have c2b0 : decide (x3_1 < (l0.length : Int)) = false := decide_eq_false c2; clear c2
    obtain rfl := Option.some.inj H
    go_wp2
    go_ret
    exact ⟨by first | rfl | (simp [errW_none, errW_some] <;> rfl) | (simp [*, errW_none, errW_some] <;> rfl), by exact bw HB.out⟩

end Go.Proofs.Ytipoeghieeafjaa.P
