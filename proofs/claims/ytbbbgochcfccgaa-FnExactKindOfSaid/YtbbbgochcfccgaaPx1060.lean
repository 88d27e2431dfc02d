-- Written by a program of this session (wip/tool).
import Derived.Test.YtbbbgochcfccgaaPx0
import Derived.Test.YtbbbgochcfccgaaPx1028
namespace Go.Proofs.Ytbbbgochcfccgaa.P
open Go.RowKit Go.Proofs.YtbbbgochcfccgaaW.PrintWords Go.Proofs.YtbbbgochcfccgaaW.PrintLast Go.Proofs.YtbbbgochcfccgaaW.PrintMore
attribute [local go_sem] max2_int min2_int max_two min_two max_three min_three max_four min_four   -- for this text's walks alone
set_option linter.unusedVariables false
set_option linter.unusedSimpArgs false

/-! ### spec_l4Good: function 60 -/
mutual
def spec_l4Good.j0 : Nat → Bool → Int → Int → ByteArray → List (S29) → Option (Bool)
 | 0, _, _, _, _, _ => none
 | k + 1, x3, x116000, x116001, x116002, x116003 => if x116000 = 1 then (spec_l4Good.j1 k x3 1 x116000 x116001 x116002 x116003) else (if x116000 = 2 then (spec_l4Good.j1 k x3 99 x116000 x116001 x116002 x116003) else (if x116000 = 3 then (spec_l4Good.j1 k x3 6 x116000 x116001 x116002 x116003) else (spec_l4Good.j1 k x3 0 x116000 x116001 x116002 x116003)))
def spec_l4Good.j1 : Nat → Bool → Int → Int → Int → ByteArray → List (S29) → Option (Bool)
 | 0, _, _, _, _, _, _ => none
 | k + 1, x3, x4, x116000, x116001, x116002, x116003 => (spec_l4Parts.f x116000).bind fun t116 => (if (x116003.length : Int) = t116 then ((spec_l1In.f x116001 0 x4).bind fun t117 => (if t117 = true then (if x116002.toList = ([] : List UInt8) then (if x3 = true then (spec_l4Good.j2 k true x116000 x116001 x116002 x116003) else (spec_l4Good.j2 k false x116000 x116001 x116002 x116003)) else (if x3 = true then ((spec_NameValid.f k x116002).bind fun t118 => (spec_l4Good.j2 k (!t118) x116000 x116001 x116002 x116003)) else (spec_l4Good.j2 k true x116000 x116001 x116002 x116003))) else (spec_l4Good.j2 k true x116000 x116001 x116002 x116003))) else (spec_l4Good.j2 k true x116000 x116001 x116002 x116003))
def spec_l4Good.j2 : Nat → Bool → Int → Int → ByteArray → List (S29) → Option (Bool)
 | 0, _, _, _, _, _ => none
 | k + 1, x56, x116000, x116001, x116002, x116003 => if x56 = true then (some false) else (spec_l4Good.l0 k 0 x116000 x116001 x116002 x116003)
def spec_l4Good.l0 : Nat → Int → Int → Int → ByteArray → List (S29) → Option (Bool)
 | 0, _, _, _, _, _ => none
 | k + 1, x5, x116000, x116001, x116002, x116003 => if x5 < (x116003.length : Int) then (if 0 ≤ x5 then ((spec_l4Good.f k ((rd_T29 x116003 x5).f0) ((rd_T29 x116003 x5).f1) ((rd_T29 x116003 x5).f2) ((rd_T29 x116003 x5).f3)).bind fun t120 => (if t120 = true then (spec_l4Good.l0 k (wrap64 (x5 + 1)) x116000 x116001 x116002 x116003) else (some false))) else (none)) else (some true)
def spec_l4Good.f : Nat → Int → Int → ByteArray → List (S29) → Option (Bool)
 | 0, _, _, _, _ => none
 | k + 1, a0_0, a0_1, a0_2, l0_3 => if a0_0 = 7 then (spec_l4Good.j0 k true a0_0 a0_1 a0_2 l0_3) else (if a0_0 = 8 then (spec_l4Good.j0 k true a0_0 a0_1 a0_2 l0_3) else (spec_l4Good.j0 k (a0_0 == 9) a0_0 a0_1 a0_2 l0_3))
end
theorem spec_l4Good.mono_l : ∀ k, (∀ y0 y1 y2 y3, LeO (spec_l4Good.f k y0 y1 y2 y3) (spec_l4Good.f (k + 1) y0 y1 y2 y3)) ∧ (∀ y0 y1 y2 y3 y4, LeO (spec_l4Good.j0 k y0 y1 y2 y3 y4) (spec_l4Good.j0 (k + 1) y0 y1 y2 y3 y4)) ∧ (∀ y0 y1 y2 y3 y4 y5, LeO (spec_l4Good.j1 k y0 y1 y2 y3 y4 y5) (spec_l4Good.j1 (k + 1) y0 y1 y2 y3 y4 y5)) ∧ (∀ y0 y1 y2 y3 y4, LeO (spec_l4Good.j2 k y0 y1 y2 y3 y4) (spec_l4Good.j2 (k + 1) y0 y1 y2 y3 y4)) ∧ (∀ y0 y1 y2 y3 y4, LeO (spec_l4Good.l0 k y0 y1 y2 y3 y4) (spec_l4Good.l0 (k + 1) y0 y1 y2 y3 y4))
 | 0 => ⟨fun _ _ _ _ r h => by simp [spec_l4Good.f] at h, fun _ _ _ _ _ r h => by simp [spec_l4Good.j0] at h, fun _ _ _ _ _ _ r h => by simp [spec_l4Good.j1] at h, fun _ _ _ _ _ r h => by simp [spec_l4Good.j2] at h, fun _ _ _ _ _ r h => by simp [spec_l4Good.l0] at h⟩
 | k + 1 => by
  obtain ⟨ih0, ih1, ih2, ih3, ih4⟩ := spec_l4Good.mono_l k
  refine ⟨?_, ?_, ?_, ?_, ?_⟩
  ·
   intro y0 y1 y2 y3
   unfold spec_l4Good.f
   repeat' first
   | (with_reducible exact ih0 _ _ _ _)
   | (with_reducible exact ih1 _ _ _ _ _)
   | (with_reducible exact ih2 _ _ _ _ _ _)
   | (with_reducible exact ih3 _ _ _ _ _)
   | (with_reducible exact ih4 _ _ _ _ _)
   | (with_reducible exact spec_NameValid.mono _ _)
   | (with_reducible exact LeO.refl _)
   | (with_reducible exact LeO.none _)
   | (with_reducible refine LeO.ite ?_ ?_)
   | (with_reducible refine LeO.bind ?_ (fun _ => ?_))
   | exact ih0 _ _ _ _
   | exact ih1 _ _ _ _ _
   | exact ih2 _ _ _ _ _ _
   | exact ih3 _ _ _ _ _
   | exact ih4 _ _ _ _ _
   | exact spec_NameValid.mono _ _
   | exact LeO.none _
   | refine LeO.ite ?_ ?_
   | refine LeO.bind ?_ (fun _ => ?_)
  ·
   intro y0 y1 y2 y3 y4
   unfold spec_l4Good.j0
   repeat' first
   | (with_reducible exact ih0 _ _ _ _)
   | (with_reducible exact ih1 _ _ _ _ _)
   | (with_reducible exact ih2 _ _ _ _ _ _)
   | (with_reducible exact ih3 _ _ _ _ _)
   | (with_reducible exact ih4 _ _ _ _ _)
   | (with_reducible exact spec_NameValid.mono _ _)
   | (with_reducible exact LeO.refl _)
   | (with_reducible exact LeO.none _)
   | (with_reducible refine LeO.ite ?_ ?_)
   | (with_reducible refine LeO.bind ?_ (fun _ => ?_))
   | exact ih0 _ _ _ _
   | exact ih1 _ _ _ _ _
   | exact ih2 _ _ _ _ _ _
   | exact ih3 _ _ _ _ _
   | exact ih4 _ _ _ _ _
   | exact spec_NameValid.mono _ _
   | exact LeO.none _
   | refine LeO.ite ?_ ?_
   | refine LeO.bind ?_ (fun _ => ?_)
  ·
   intro y0 y1 y2 y3 y4 y5
   unfold spec_l4Good.j1
   repeat' first
   | (with_reducible exact ih0 _ _ _ _)
   | (with_reducible exact ih1 _ _ _ _ _)
   | (with_reducible exact ih2 _ _ _ _ _ _)
   | (with_reducible exact ih3 _ _ _ _ _)
   | (with_reducible exact ih4 _ _ _ _ _)
   | (with_reducible exact spec_NameValid.mono _ _)
   | (with_reducible exact LeO.refl _)
   | (with_reducible exact LeO.none _)
   | (with_reducible refine LeO.ite ?_ ?_)
   | (with_reducible refine LeO.bind ?_ (fun _ => ?_))
   | exact ih0 _ _ _ _
   | exact ih1 _ _ _ _ _
   | exact ih2 _ _ _ _ _ _
   | exact ih3 _ _ _ _ _
   | exact ih4 _ _ _ _ _
   | exact spec_NameValid.mono _ _
   | exact LeO.none _
   | refine LeO.ite ?_ ?_
   | refine LeO.bind ?_ (fun _ => ?_)
  ·
   intro y0 y1 y2 y3 y4
   unfold spec_l4Good.j2
   repeat' first
   | (with_reducible exact ih0 _ _ _ _)
   | (with_reducible exact ih1 _ _ _ _ _)
   | (with_reducible exact ih2 _ _ _ _ _ _)
   | (with_reducible exact ih3 _ _ _ _ _)
   | (with_reducible exact ih4 _ _ _ _ _)
   | (with_reducible exact spec_NameValid.mono _ _)
   | (with_reducible exact LeO.refl _)
   | (with_reducible exact LeO.none _)
   | (with_reducible refine LeO.ite ?_ ?_)
   | (with_reducible refine LeO.bind ?_ (fun _ => ?_))
   | exact ih0 _ _ _ _
   | exact ih1 _ _ _ _ _
   | exact ih2 _ _ _ _ _ _
   | exact ih3 _ _ _ _ _
   | exact ih4 _ _ _ _ _
   | exact spec_NameValid.mono _ _
   | exact LeO.none _
   | refine LeO.ite ?_ ?_
   | refine LeO.bind ?_ (fun _ => ?_)
  ·
   intro y0 y1 y2 y3 y4
   unfold spec_l4Good.l0
   repeat' first
   | (with_reducible exact ih0 _ _ _ _)
   | (with_reducible exact ih1 _ _ _ _ _)
   | (with_reducible exact ih2 _ _ _ _ _ _)
   | (with_reducible exact ih3 _ _ _ _ _)
   | (with_reducible exact ih4 _ _ _ _ _)
   | (with_reducible exact spec_NameValid.mono _ _)
   | (with_reducible exact LeO.refl _)
   | (with_reducible exact LeO.none _)
   | (with_reducible refine LeO.ite ?_ ?_)
   | (with_reducible refine LeO.bind ?_ (fun _ => ?_))
   | exact ih0 _ _ _ _
   | exact ih1 _ _ _ _ _
   | exact ih2 _ _ _ _ _ _
   | exact ih3 _ _ _ _ _
   | exact ih4 _ _ _ _ _
   | exact spec_NameValid.mono _ _
   | exact LeO.none _
   | refine LeO.ite ?_ ?_
   | refine LeO.bind ?_ (fun _ => ?_)
theorem spec_l4Good.mono : ∀ a0 a1 a2 a3 k, LeO (spec_l4Good.f k a0 a1 a2 a3) (spec_l4Good.f (k + 1) a0 a1 a2 a3) := by
 intro a0 a1 a2 a3 k
 obtain ⟨ih0, ih1, ih2, ih3, ih4⟩ := spec_l4Good.mono_l k
 exact ih0 a0 a1 a2 a3
def spec_l4Good.T10 : Bool × List (List Nat × List Nat) := (true, [([], []), ([0], [0]), ([1], [1]), ([], []), ([3], [3]), ([4], [4]), ([2, 5], [2, 5]), ([6, 5], [6]), ([7], [7]), ([8, 7], [7, 8]), ([7], [7]), ([9, 10, 7, 7], [7, 9, 10]), ([11, 7], [7, 11]), ([7, 12], [7, 12]), ([13, 11], [13]), ([14], [14]), ([14], [14]), ([16, 14], [14, 16]), ([17, 14], [14, 17]), ([15, 18, 14], [14, 15, 18]), ([14, 19], [14, 19]), ([20, 14], [20]), ([21], [21]), ([22, 21, 21], [21, 22]), ([23], [23]), ([24, 23], [23, 24]), ([25, 23, 23], [23, 25]), ([26, 23], [23, 26]), ([23, 27, 21], [21, 23, 27]), ([21, 28], [21, 28])])
def spec_l4Good.B10 : List Nat := [0, 1, 3, 0, 8, 24, 63, 127, 255, 511, 255, 2047, 4095, 8191, 16383, 32767, 32767, 98303, 229375, 524287, 1048575, 2097151, 4194303, 8388607, 16777215, 33554431, 67108863, 134217727, 268435455, 536870911]
theorem spec_l4Good.tab10 : rtab .any (opsOf Try.f60 10) = spec_l4Good.T10 := by kernel_rfl
theorem spec_l4Good.bits10 : waitsOk spec_l4Good.T10.2 spec_l4Good.B10 = true := by kernel_rfl
set_option maxHeartbeats 8000000 in
set_option maxRecDepth 100000 in
theorem spec_l4Good.calls (k : Nat) : ∀ (a0_0 : Int) (a0_1 : Int) (a0_2 : ByteArray) (A0_3 : Option Addr) (c0_3 : Nat) (l0_3 : List (S29)) (r : Bool) (w : World) (hr0_3 : Kd.C k29 w A0_3 l0_3.length l0_3) (hc0_3 : l0_3.length ≤ c0_3) (h : spec_l4Good.f k a0_0 a0_1 a0_2 l0_3 = some r),
  Calls Try.prog 60 #[.agg #[.int .i64 a0_0, .int .i64 a0_1, .string a0_2, .slice A0_3 l0_3.length c0_3]] w fun e w' => e = .returned (.bool r) ∧ Below w.heap.size w w' := by
 induction k using Nat.strongRecOn with
 | _ k ih =>
 intro a0_0 a0_1 a0_2 A0_3 c0_3 l0_3 r w hr0_3 hc0_3 h
 cases k with
 | zero => exact absurd h (by simp [spec_l4Good.f])
 | succ k =>
 simp only [spec_l4Good.f] at h
 have hu29 := Try.underlying29
 have HR0_3 := Aside0.mk hr0_3
 have HC0_3 := Aside0.mk hc0_3
 clear hr0_3 hc0_3
 have HB := Aside0.mk (Below.refl w.heap.size w)
 have H : (if a0_0 = 7 then (spec_l4Good.j0 k true a0_0 a0_1 a0_2 l0_3) else (if a0_0 = 8 then (spec_l4Good.j0 k true a0_0 a0_1 a0_2 l0_3) else (spec_l4Good.j0 k (a0_0 == 9) a0_0 a0_1 a0_2 l0_3))) = some r := h
 clear h
 have HC2 := Aside0.mk H
 clear H
 go_enter Try.func60, Try.ntmps60
 go_upto_region 1 with (first | ((with_reducible refine gate_dst (N := 1) rfl ?_); refine bx 1 #[.int .i64 a0_0, .int .i64 a0_1, .string a0_2, .slice A0_3 l0_3.length c0_3] 29 ?_; intro gb115 hg w3 hbox hb; have BK115 := Aside0.mk (hbox); have GW115 := gwB HB hg; have GE115 := gwB HB hg; replace HB := bS HB hb; clear hb hbox hg))
 (try simp only [Act.put, List.setIfInBounds_toArray, List.set_cons_zero, List.set_cons_succ])
 go_cut [3] (fun v3 wc => ∃ (kq : Nat) (x3_1 : Bool), v3 = .bool x3_1 ∧ Aside0 (spec_l4Good.j0 kq x3_1 a0_0 a0_1 a0_2 l0_3 = some r) ∧ Aside0 (kq ≤ k) ∧ Aside0 (wc.heap[gb115]? = some (.cells #[.int .i64 a0_0, .int .i64 a0_1, .string a0_2, (.slice A0_3 l0_3.length c0_3)] 29 (0, 0))) ∧ Aside0 (Below w.heap.size w wc))
 case first =>
  have H := HC2.out
  clear HC2
  by_cases c4 : a0_0 = 7
  ·
   rw [if_pos c4] at H; obtain ⟨c4b0, c4b1⟩ := eqY c4; clear c4
   (first | rw [c4b0] | (simp only [i64_w, i32_w]; rw [c4b0]) | rw [c4b2] | rw [c4b1] | skip)
   have H' := Aside0.mk H
   clear H
   have hcz5_0 : w3.cell? ⟨gb115, 0, none⟩ = some (.int .i64 a0_0) := (blk_cell BK115.out 0).trans rfl
   have hcz5_1 : w3.cell? ⟨gb115, 1, none⟩ = some (.int .i64 a0_1) := (blk_cell BK115.out 1).trans rfl
   have hcz5_2 : w3.cell? ⟨gb115, 2, none⟩ = some (.string a0_2) := (blk_cell BK115.out 2).trans rfl
   have hcz5_3 : w3.cell? ⟨gb115, 3, none⟩ = some (.slice A0_3 l0_3.length c0_3) := (blk_cell BK115.out 3).trans rfl
   have hfz5_0 := blk_frozen BK115.out 0
   have hfz5_1 := blk_frozen BK115.out 1
   have hfz5_2 := blk_frozen BK115.out 2
   have hfz5_3 := blk_frozen BK115.out 3
   go_wp2
   go_meet
   case rel => exact ⟨_, (true), (by first | rfl | (simp; done) | (simp [*]; done)), H', ⟨by first | omega | exact Nat.le_refl _⟩, ⟨by exact bk BK115.out⟩, ⟨by exact bw HB.out⟩⟩
  ·
   rw [if_neg c4] at H; obtain ⟨c4b0, c4b1⟩ := eqN c4
   (first | rw [c4b0] | (simp only [i64_w, i32_w]; rw [c4b0]) | rw [c4b2] | rw [c4b1] | skip)
   by_cases c6 : a0_0 = 8
   ·
    rw [if_pos c6] at H; obtain ⟨c6b0, c6b1⟩ := eqY c6; clear c6
    have H' := Aside0.mk H
    clear H
    have hcz7_0 : w3.cell? ⟨gb115, 0, none⟩ = some (.int .i64 a0_0) := (blk_cell BK115.out 0).trans rfl
    have hcz7_1 : w3.cell? ⟨gb115, 1, none⟩ = some (.int .i64 a0_1) := (blk_cell BK115.out 1).trans rfl
    have hcz7_2 : w3.cell? ⟨gb115, 2, none⟩ = some (.string a0_2) := (blk_cell BK115.out 2).trans rfl
    have hcz7_3 : w3.cell? ⟨gb115, 3, none⟩ = some (.slice A0_3 l0_3.length c0_3) := (blk_cell BK115.out 3).trans rfl
    have hfz7_0 := blk_frozen BK115.out 0
    have hfz7_1 := blk_frozen BK115.out 1
    have hfz7_2 := blk_frozen BK115.out 2
    have hfz7_3 := blk_frozen BK115.out 3
    go_wp2
    go_meet
    case rel => exact ⟨_, (true), (by first | rfl | (simp; done) | (simp [*]; done)), H', ⟨by first | omega | exact Nat.le_refl _⟩, ⟨by exact bk BK115.out⟩, ⟨by exact bw HB.out⟩⟩
   ·
    rw [if_neg c6] at H; obtain ⟨c6b0, c6b1⟩ := eqN c6
    have H' := Aside0.mk H
    clear H
    have hcz8_0 : w3.cell? ⟨gb115, 0, none⟩ = some (.int .i64 a0_0) := (blk_cell BK115.out 0).trans rfl
    have hcz8_1 : w3.cell? ⟨gb115, 1, none⟩ = some (.int .i64 a0_1) := (blk_cell BK115.out 1).trans rfl
    have hcz8_2 : w3.cell? ⟨gb115, 2, none⟩ = some (.string a0_2) := (blk_cell BK115.out 2).trans rfl
    have hcz8_3 : w3.cell? ⟨gb115, 3, none⟩ = some (.slice A0_3 l0_3.length c0_3) := (blk_cell BK115.out 3).trans rfl
    have hfz8_0 := blk_frozen BK115.out 0
    have hfz8_1 := blk_frozen BK115.out 1
    have hfz8_2 := blk_frozen BK115.out 2
    have hfz8_3 := blk_frozen BK115.out 3
    go_wp2
    go_meet
    case rel => exact ⟨_, ((a0_0 == 9)), (by first | rfl | (simp; done) | (simp [*]; done)), H', ⟨by first | omega | exact Nat.le_refl _⟩, ⟨by exact bk BK115.out⟩, ⟨by exact bw HB.out⟩⟩
 case rest =>
  clear HC2
  try clear p2
  try clear c4
  try clear c4b0
  try clear c4b1
  try clear c4b2
  try clear c6
  try clear c6b0
  try clear c6b1
  try clear hcz5_0
  try clear hcz5_1
  try clear hcz5_2
  try clear hcz5_3
  try clear hcz7_0
  try clear hcz7_1
  try clear hcz7_2
  try clear hcz7_3
  try clear hcz8_0
  try clear hcz8_1
  try clear hcz8_2
  try clear hcz8_3
  try clear hfz5_0
  try clear hfz5_1
  try clear hfz5_2
  try clear hfz5_3
  try clear hfz7_0
  try clear hfz7_1
  try clear hfz7_2
  try clear hfz7_3
  try clear hfz8_0
  try clear hfz8_1
  try clear hfz8_2
  try clear hfz8_3
  obtain ⟨kq, x3_1, rfl, HA, HJ1, BK115, HB⟩ := hcut
  cases kq with
  | zero => exact absurd HA.out (by simp [spec_l4Good.j0])
  | succ kj1 =>
   have H := HA.out
   clear HA
   simp only [spec_l4Good.j0] at H
   have HC9 := Aside0.mk H
   clear H
   have hcz10_0 : wc.cell? ⟨gb115, 0, none⟩ = some (.int .i64 a0_0) := (blk_cell BK115.out 0).trans rfl
   have hcz10_1 : wc.cell? ⟨gb115, 1, none⟩ = some (.int .i64 a0_1) := (blk_cell BK115.out 1).trans rfl
   have hcz10_2 : wc.cell? ⟨gb115, 2, none⟩ = some (.string a0_2) := (blk_cell BK115.out 2).trans rfl
   have hcz10_3 : wc.cell? ⟨gb115, 3, none⟩ = some (.slice A0_3 l0_3.length c0_3) := (blk_cell BK115.out 3).trans rfl
   have hfz10_0 := blk_frozen BK115.out 0
   have hfz10_1 := blk_frozen BK115.out 1
   have hfz10_2 := blk_frozen BK115.out 2
   have hfz10_3 := blk_frozen BK115.out 3
   go_upto_block 0 with (fail)
   go_cut [4] (fun v4 wc => ∃ (kq : Nat) (x4_8 : Int), v4 = .int .i64 x4_8 ∧ Aside0 (spec_l4Good.j1 kq x3_1 x4_8 a0_0 a0_1 a0_2 l0_3 = some r) ∧ Aside0 (kq ≤ kj1) ∧ Aside0 (wc.heap[gb115]? = some (.cells #[.int .i64 a0_0, .int .i64 a0_1, .string a0_2, (.slice A0_3 l0_3.length c0_3)] 29 (0, 0))) ∧ Aside0 (Below w.heap.size w wc))
   case first =>
    have H := HC9.out
    clear HC9
    by_cases c11 : a0_0 = 1
    ·
     rw [if_pos c11] at H; obtain ⟨c11b0, c11b1⟩ := eqY c11; clear c11
     (first | rw [c11b0] | (simp only [i64_w, i32_w]; rw [c11b0]) | rw [c11b2] | rw [c11b1] | skip)
     have H' := Aside0.mk H
     clear H
     go_wp2
     go_meet
     case rel => exact ⟨_, (1), (by first | rfl | (simp; done) | (simp [*]; done)), H', ⟨by have := HJ1.out; first | omega | exact Nat.le_refl _⟩, ⟨by exact bk BK115.out⟩, ⟨by exact bw HB.out⟩⟩
    ·
     rw [if_neg c11] at H; obtain ⟨c11b0, c11b1⟩ := eqN c11
     (first | rw [c11b0] | (simp only [i64_w, i32_w]; rw [c11b0]) | rw [c11b2] | rw [c11b1] | skip)
     by_cases c12 : a0_0 = 2
     ·
      rw [if_pos c12] at H; obtain ⟨c12b0, c12b1⟩ := eqY c12; clear c12
      have H' := Aside0.mk H
      clear H
      go_wp2
      go_meet
      case rel => exact ⟨_, (99), (by first | rfl | (simp; done) | (simp [*]; done)), H', ⟨by have := HJ1.out; first | omega | exact Nat.le_refl _⟩, ⟨by exact bk BK115.out⟩, ⟨by exact bw HB.out⟩⟩
     ·
      rw [if_neg c12] at H; obtain ⟨c12b0, c12b1⟩ := eqN c12
      by_cases c13 : a0_0 = 3
      ·
       rw [if_pos c13] at H; obtain ⟨c13b0, c13b1⟩ := eqY c13; clear c13
       have H' := Aside0.mk H
       clear H
       go_wp2
       go_meet
       case rel => exact ⟨_, (6), (by first | rfl | (simp; done) | (simp [*]; done)), H', ⟨by have := HJ1.out; first | omega | exact Nat.le_refl _⟩, ⟨by exact bk BK115.out⟩, ⟨by exact bw HB.out⟩⟩
      ·
       rw [if_neg c13] at H; obtain ⟨c13b0, c13b1⟩ := eqN c13
       have H' := Aside0.mk H
       clear H
       go_wp2
       go_meet
       case rel => exact ⟨_, (0), (by first | rfl | (simp; done) | (simp [*]; done)), H', ⟨by have := HJ1.out; first | omega | exact Nat.le_refl _⟩, ⟨by exact bk BK115.out⟩, ⟨by exact bw HB.out⟩⟩
   case rest =>
    clear HC9
    try clear c1
    try clear p2
    try clear c4
    try clear c4b0
    try clear c4b1
    try clear c4b2
    try clear c6
    try clear c6b0
    try clear c6b1
    try clear c11
    try clear c11b0
    try clear c11b1
    try clear c11b2
    try clear c12
    try clear c12b0
    try clear c12b1
    try clear c13
    try clear c13b0
    try clear c13b1
    try clear hcz10_0
    try clear hcz10_1
    try clear hcz10_2
    try clear hcz10_3
    try clear hcz5_0
    try clear hcz5_1
    try clear hcz5_2
    try clear hcz5_3
    try clear hcz7_0
    try clear hcz7_1
    try clear hcz7_2
    try clear hcz7_3
    try clear hcz8_0
    try clear hcz8_1
    try clear hcz8_2
    try clear hcz8_3
    try clear hfz10_0
    try clear hfz10_1
    try clear hfz10_2
    try clear hfz10_3
    try clear hfz5_0
    try clear hfz5_1
    try clear hfz5_2
    try clear hfz5_3
    try clear hfz7_0
    try clear hfz7_1
    try clear hfz7_2
    try clear hfz7_3
    try clear hfz8_0
    try clear hfz8_1
    try clear hfz8_2
    try clear hfz8_3
    try clear p2
    obtain ⟨kq, x4_8, rfl, HA, HJ8, BK115, HB⟩ := hcut
    cases kq with
    | zero => exact absurd HA.out (by simp [spec_l4Good.j1])
    | succ kj8 =>
     have H := HA.out
     clear HA
     simp only [spec_l4Good.j1] at H
     have HC14 := Aside0.mk H
     clear H
     go_upto_region 10 with (fail)
     go_cut [56] (fun v56 wc => ∃ (kq : Nat) (x56_13 : Bool), v56 = .bool x56_13 ∧ Aside0 (spec_l4Good.j2 kq x56_13 a0_0 a0_1 a0_2 l0_3 = some r) ∧ Aside0 (kq ≤ kj8) ∧ Aside0 (wc.heap[gb115]? = some (.cells #[.int .i64 a0_0, .int .i64 a0_1, .string a0_2, (.slice A0_3 l0_3.length c0_3)] 29 (0, 0))) ∧ Aside0 (Below w.heap.size w wc))
     case first =>
      have H := HC14.out
      clear HC14
      replace H := Option.bind_eq_some_iff.mp H
      obtain ⟨t116, A150, H⟩ := H
      replace H : (if (l0_3.length : Int) = t116 then ((spec_l1In.f a0_1 0 x4_8).bind fun t117 => (if t117 = true then (if a0_2.toList = ([] : List UInt8) then (if x3_1 = true then (spec_l4Good.j2 kj8 true a0_0 a0_1 a0_2 l0_3) else (spec_l4Good.j2 kj8 false a0_0 a0_1 a0_2 l0_3)) else (if x3_1 = true then ((spec_NameValid.f kj8 a0_2).bind fun t118 => (spec_l4Good.j2 kj8 (!t118) a0_0 a0_1 a0_2 l0_3)) else (spec_l4Good.j2 kj8 true a0_0 a0_1 a0_2 l0_3))) else (spec_l4Good.j2 kj8 true a0_0 a0_1 a0_2 l0_3))) else (spec_l4Good.j2 kj8 true a0_0 a0_1 a0_2 l0_3)) = some r := H
      have A15 := Aside0.mk A150
      clear A150
      by_cases c16 : (l0_3.length : Int) = t116
      ·
       rw [if_pos c16] at H; obtain ⟨c16b0, c16b1⟩ := eqY c16; clear c16
       (first | rw [c16b0] | (simp only [i64_w, i32_w]; rw [c16b0]) | rw [c16b2] | rw [c16b1] | skip)
       replace H := Option.bind_eq_some_iff.mp H
       obtain ⟨t117, A170, H⟩ := H
       replace H : (if t117 = true then (if a0_2.toList = ([] : List UInt8) then (if x3_1 = true then (spec_l4Good.j2 kj8 true a0_0 a0_1 a0_2 l0_3) else (spec_l4Good.j2 kj8 false a0_0 a0_1 a0_2 l0_3)) else (if x3_1 = true then ((spec_NameValid.f kj8 a0_2).bind fun t118 => (spec_l4Good.j2 kj8 (!t118) a0_0 a0_1 a0_2 l0_3)) else (spec_l4Good.j2 kj8 true a0_0 a0_1 a0_2 l0_3))) else (spec_l4Good.j2 kj8 true a0_0 a0_1 a0_2 l0_3)) = some r := H
       have A17 := Aside0.mk A170
       clear A170
       by_cases c18 : t117 = true
       ·
        subst c18
        have H1 : (if a0_2.toList = ([] : List UInt8) then (if x3_1 = true then (spec_l4Good.j2 kj8 true a0_0 a0_1 a0_2 l0_3) else (spec_l4Good.j2 kj8 false a0_0 a0_1 a0_2 l0_3)) else (if x3_1 = true then ((spec_NameValid.f kj8 a0_2).bind fun t118 => (spec_l4Good.j2 kj8 (!t118) a0_0 a0_1 a0_2 l0_3)) else (spec_l4Good.j2 kj8 true a0_0 a0_1 a0_2 l0_3))) = some r := by rw [if_pos rfl] at H; exact H
        clear H
        have H := H1
        clear H1
        by_cases c19 : a0_2.toList = ([] : List UInt8)
        ·
         rw [if_pos c19] at H; have c19b0 : a0_2.toList.isEmpty = true := (by rw [c19]; rfl)
         have c19b1 : (a0_2.toList == ([] : List UInt8)) = true := beq_iff_eq.mpr c19
         have c19b2 : (a0_2.toList != ([] : List UInt8)) = false := bne_eq_false_iff_eq.mpr c19
         (try (have c19b3 : a0_2.toList = ([] : List UInt8) := c19))
         clear c19
         by_cases c20 : x3_1 = true
         ·
          subst c20
          have H1 : (spec_l4Good.j2 kj8 true a0_0 a0_1 a0_2 l0_3) = some r := by rw [if_pos rfl] at H; exact H
          clear H
          have H := H1
          clear H1
          have H' := Aside0.mk H
          clear H
          try go_wp2
          replace BK115 := Aside0.mk (blk_drew BK115.out)
          replace HB := Aside0.mk (below_drew1 HB.out)
          refine start_ (n := 30) (S := fun w' => w'.cell? ⟨gb115, 0, none⟩ = some (.int .i64 a0_0) ∧ w'.cell? ⟨gb115, 1, none⟩ = some (.int .i64 a0_1) ∧ w'.cell? ⟨gb115, 2, none⟩ = some (.string a0_2) ∧ w'.cell? ⟨gb115, 3, none⟩ = some (.slice A0_3 l0_3.length c0_3)) (ds := []) (mB 30 0) (by kernel_rfl) rfl rfl (cs4 BK115.out) (fun hHeld => ?_); refine with_tabW spec_l4Good.tab10 spec_l4Good.bits10 (fun HT_ HW_ => ?_)
          generalize wc.drew = w21 at BK115 HB hHeld ⊢
          refine pn 0 27 HT_.out ?_
          refine pn 3 30 HT_.out ?_
          refine tk 1 28 HT_.out HW_.out hHeld ?_
          refine pn 2 29 HT_.out ?_
          refine tk 4 31 HT_.out HW_.out hHeld ?_
          refine on 5 32 HT_.out (fun K hK => ?_)
          refine gs Try.func84 #[.int .i64 a0_0] ?_
          with_reducible refine (spec_l4Parts.calls a0_0 t116 _ A15.out).mono ?_
          rintro e w22 ⟨rfl, hb⟩
          refine ⟨_, rfl, ?_⟩
          replace BK115 := bB BK115 hb
          replace HB := bS HB hb
          (try clear hb)
          (try clear hb2)
          (try clear hk)
          (try clear hi)
          refine hK.out _ _ (cs4 BK115.out) (fun hHeld => ?_)
          clear hK K
          refine nm (some 32) ?_
          refine pn 6 33 HT_.out ?_
          refine pn 7 34 HT_.out ?_
          refine pn 8 35 HT_.out ?_
          refine pn 10 37 HT_.out ?_
          refine tk 9 36 HT_.out HW_.out hHeld ?_
          refine on 11 38 HT_.out (fun K hK => ?_)
          refine gs Try.func44 #[.int .i64 a0_1, .int .i64 0, .int .i64 x4_8] ?_
          with_reducible refine (spec_l1In.calls a0_1 0 x4_8 true _ A17.out).mono ?_
          rintro e w' ⟨rfl, ⟨nd, rfl⟩⟩
          refine ⟨_, rfl, ?_⟩
          refine hK.out _ _ (cs4 BK115.out) (fun hHeld => ?_)
          clear hK K
          refine nm (some 38) ?_
          refine pn 12 39 HT_.out ?_
          refine pn 13 40 HT_.out ?_
          refine pn 14 41 HT_.out ?_
          refine pn 15 42 HT_.out ?_
          refine pn 16 43 HT_.out ?_
          refine tk 17 44 HT_.out HW_.out hHeld ?_
          refine pn 18 45 HT_.out ?_
          refine pn 19 46 HT_.out ?_
          refine pn 20 47 HT_.out ?_
          refine pn 21 48 HT_.out ?_
          refine pf 22 49 HT_.out ?_
          refine pf 23 50 HT_.out ?_
          refine pf 24 51 HT_.out ?_
          refine pf 25 52 HT_.out ?_
          refine pf 26 53 HT_.out ?_
          refine pf 27 54 HT_.out ?_
          refine pf 28 55 HT_.out ?_
          refine pn 29 56 HT_.out ?_
          refine done_ (done_of HT_.out (by kernel_rfl)) ?_
          try go_wp2
          go_meet
          case rel => exact ⟨_, (true), (by first | rfl | (simp; done) | (simp [*]; done)), H', ⟨by have := HJ1.out; have := HJ8.out; first | omega | exact Nat.le_refl _⟩, ⟨by exact bk BK115.out⟩, ⟨by exact bw HB.out⟩⟩
         ·
          replace c20 := Bool.eq_false_iff.mpr c20
          subst c20
          have H1 : (spec_l4Good.j2 kj8 false a0_0 a0_1 a0_2 l0_3) = some r := by rw [if_neg (show ¬ (false = true) by decide)] at H; exact H
          clear H
          have H := H1
          clear H1
          have H' := Aside0.mk H
          clear H
          try go_wp2
          replace BK115 := Aside0.mk (blk_drew BK115.out)
          replace HB := Aside0.mk (below_drew1 HB.out)
          refine start_ (n := 30) (S := fun w' => w'.cell? ⟨gb115, 0, none⟩ = some (.int .i64 a0_0) ∧ w'.cell? ⟨gb115, 1, none⟩ = some (.int .i64 a0_1) ∧ w'.cell? ⟨gb115, 2, none⟩ = some (.string a0_2) ∧ w'.cell? ⟨gb115, 3, none⟩ = some (.slice A0_3 l0_3.length c0_3)) (ds := []) (mB 30 0) (by kernel_rfl) rfl rfl (cs4 BK115.out) (fun hHeld => ?_); refine with_tabW spec_l4Good.tab10 spec_l4Good.bits10 (fun HT_ HW_ => ?_)
          generalize wc.drew = w23 at BK115 HB hHeld ⊢
          refine pn 0 27 HT_.out ?_
          refine pn 3 30 HT_.out ?_
          refine tk 1 28 HT_.out HW_.out hHeld ?_
          refine pn 2 29 HT_.out ?_
          refine tk 4 31 HT_.out HW_.out hHeld ?_
          refine on 5 32 HT_.out (fun K hK => ?_)
          refine gs Try.func84 #[.int .i64 a0_0] ?_
          with_reducible refine (spec_l4Parts.calls a0_0 t116 _ A15.out).mono ?_
          rintro e w24 ⟨rfl, hb⟩
          refine ⟨_, rfl, ?_⟩
          replace BK115 := bB BK115 hb
          replace HB := bS HB hb
          (try clear hb)
          (try clear hb2)
          (try clear hk)
          (try clear hi)
          refine hK.out _ _ (cs4 BK115.out) (fun hHeld => ?_)
          clear hK K
          refine nm (some 32) ?_
          refine pn 6 33 HT_.out ?_
          refine pn 7 34 HT_.out ?_
          refine pn 8 35 HT_.out ?_
          refine pn 10 37 HT_.out ?_
          refine tk 9 36 HT_.out HW_.out hHeld ?_
          refine on 11 38 HT_.out (fun K hK => ?_)
          refine gs Try.func44 #[.int .i64 a0_1, .int .i64 0, .int .i64 x4_8] ?_
          with_reducible refine (spec_l1In.calls a0_1 0 x4_8 true _ A17.out).mono ?_
          rintro e w' ⟨rfl, ⟨nd, rfl⟩⟩
          refine ⟨_, rfl, ?_⟩
          refine hK.out _ _ (cs4 BK115.out) (fun hHeld => ?_)
          clear hK K
          refine nm (some 38) ?_
          refine pn 12 39 HT_.out ?_
          refine pn 13 40 HT_.out ?_
          refine pn 14 41 HT_.out ?_
          refine pn 15 42 HT_.out ?_
          refine pn 16 43 HT_.out ?_
          refine tk 17 44 HT_.out HW_.out hHeld ?_
          refine pn 18 45 HT_.out ?_
          refine pn 19 46 HT_.out ?_
          refine pn 20 47 HT_.out ?_
          refine pn 21 48 HT_.out ?_
          refine pn 22 49 HT_.out ?_
          refine pn 23 50 HT_.out ?_
          refine pf 24 51 HT_.out ?_
          refine pf 25 52 HT_.out ?_
          refine pf 26 53 HT_.out ?_
          refine pf 27 54 HT_.out ?_
          refine pn 28 55 HT_.out ?_
          refine pn 29 56 HT_.out ?_
          refine done_ (done_of HT_.out (by kernel_rfl)) ?_
          try go_wp2
          go_meet
          case rel => exact ⟨_, (false), (by first | rfl | (simp; done) | (simp [*]; done)), H', ⟨by have := HJ1.out; have := HJ8.out; first | omega | exact Nat.le_refl _⟩, ⟨by exact bk BK115.out⟩, ⟨by exact bw HB.out⟩⟩
        ·
         rw [if_neg c19] at H; have c19b0 : a0_2.toList.isEmpty = false := (by cases h_ : (a0_2.toList).isEmpty <;> simp_all)
         have c19b1 : (a0_2.toList == ([] : List UInt8)) = false := beq_eq_false_iff_ne.mpr c19
         have c19b2 : (a0_2.toList != ([] : List UInt8)) = true := bne_iff_ne.mpr c19
         (try (have c19b3 : ¬ a0_2.toList = ([] : List UInt8) := c19))
         by_cases c25 : x3_1 = true
         ·
          subst c25
          have H1 : ((spec_NameValid.f kj8 a0_2).bind fun t118 => (spec_l4Good.j2 kj8 (!t118) a0_0 a0_1 a0_2 l0_3)) = some r := by rw [if_pos rfl] at H; exact H
          clear H
          have H := H1
          clear H1
          replace H := Option.bind_eq_some_iff.mp H
          obtain ⟨t118, A260, H⟩ := H
          replace H : (spec_l4Good.j2 kj8 (!t118) a0_0 a0_1 a0_2 l0_3) = some r := H
          have A26 := Aside0.mk A260
          clear A260
          have H' := Aside0.mk H
          clear H
          try go_wp2
          replace BK115 := Aside0.mk (blk_drew BK115.out)
          replace HB := Aside0.mk (below_drew1 HB.out)
          refine start_ (n := 30) (S := fun w' => w'.cell? ⟨gb115, 0, none⟩ = some (.int .i64 a0_0) ∧ w'.cell? ⟨gb115, 1, none⟩ = some (.int .i64 a0_1) ∧ w'.cell? ⟨gb115, 2, none⟩ = some (.string a0_2) ∧ w'.cell? ⟨gb115, 3, none⟩ = some (.slice A0_3 l0_3.length c0_3)) (ds := []) (mB 30 0) (by kernel_rfl) rfl rfl (cs4 BK115.out) (fun hHeld => ?_); refine with_tabW spec_l4Good.tab10 spec_l4Good.bits10 (fun HT_ HW_ => ?_)
          generalize wc.drew = w27 at BK115 HB hHeld ⊢
          refine pn 0 27 HT_.out ?_
          refine pn 3 30 HT_.out ?_
          refine tk 1 28 HT_.out HW_.out hHeld ?_
          refine pn 2 29 HT_.out ?_
          refine tk 4 31 HT_.out HW_.out hHeld ?_
          refine on 5 32 HT_.out (fun K hK => ?_)
          refine gs Try.func84 #[.int .i64 a0_0] ?_
          with_reducible refine (spec_l4Parts.calls a0_0 t116 _ A15.out).mono ?_
          rintro e w28 ⟨rfl, hb⟩
          refine ⟨_, rfl, ?_⟩
          replace BK115 := bB BK115 hb
          replace HB := bS HB hb
          (try clear hb)
          (try clear hb2)
          (try clear hk)
          (try clear hi)
          refine hK.out _ _ (cs4 BK115.out) (fun hHeld => ?_)
          clear hK K
          refine nm (some 32) ?_
          refine pn 6 33 HT_.out ?_
          refine pn 7 34 HT_.out ?_
          refine pn 8 35 HT_.out ?_
          refine pn 10 37 HT_.out ?_
          refine tk 9 36 HT_.out HW_.out hHeld ?_
          refine on 11 38 HT_.out (fun K hK => ?_)
          refine gs Try.func44 #[.int .i64 a0_1, .int .i64 0, .int .i64 x4_8] ?_
          with_reducible refine (spec_l1In.calls a0_1 0 x4_8 true _ A17.out).mono ?_
          rintro e w' ⟨rfl, ⟨nd, rfl⟩⟩
          refine ⟨_, rfl, ?_⟩
          refine hK.out _ _ (cs4 BK115.out) (fun hHeld => ?_)
          clear hK K
          refine nm (some 38) ?_
          refine pn 12 39 HT_.out ?_
          refine pn 13 40 HT_.out ?_
          refine pn 14 41 HT_.out ?_
          refine pn 15 42 HT_.out ?_
          refine pn 16 43 HT_.out ?_
          refine tk 17 44 HT_.out HW_.out hHeld ?_
          refine pn 18 45 HT_.out ?_
          refine pn 19 46 HT_.out ?_
          refine pn 20 47 HT_.out ?_
          refine pn 21 48 HT_.out ?_
          refine pn 22 49 HT_.out ?_
          refine pn 23 50 HT_.out ?_
          refine pn 24 51 HT_.out ?_
          refine tk 25 52 HT_.out HW_.out hHeld ?_
          refine on 26 53 HT_.out (fun K hK => ?_)
          refine gs Try.func72 #[.string a0_2] ?_
          with_reducible refine (spec_NameValid.calls kj8 a0_2 t118 _ A26.out).mono ?_
          rintro e w' ⟨rfl, ⟨nd, rfl⟩⟩
          refine ⟨_, rfl, ?_⟩
          refine hK.out _ _ (cs4 BK115.out) (fun hHeld => ?_)
          clear hK K
          refine nm (some 53) ?_
          refine pn 27 54 HT_.out ?_
          refine pn 28 55 HT_.out ?_
          refine pn 29 56 HT_.out ?_
          refine done_ (done_of HT_.out (by kernel_rfl)) ?_
          try go_wp2
          go_meet
          case rel => exact ⟨_, (!t118), (by first | rfl | (simp; done) | (simp [*]; done)), H', ⟨by have := HJ1.out; have := HJ8.out; first | omega | exact Nat.le_refl _⟩, ⟨by exact bk BK115.out⟩, ⟨by exact bw HB.out⟩⟩
         ·
          replace c25 := Bool.eq_false_iff.mpr c25
          subst c25
          have H1 : (spec_l4Good.j2 kj8 true a0_0 a0_1 a0_2 l0_3) = some r := by rw [if_neg (show ¬ (false = true) by decide)] at H; exact H
          clear H
          have H := H1
          clear H1
          have H' := Aside0.mk H
          clear H
          try go_wp2
          replace BK115 := Aside0.mk (blk_drew BK115.out)
          replace HB := Aside0.mk (below_drew1 HB.out)
          refine start_ (n := 30) (S := fun w' => w'.cell? ⟨gb115, 0, none⟩ = some (.int .i64 a0_0) ∧ w'.cell? ⟨gb115, 1, none⟩ = some (.int .i64 a0_1) ∧ w'.cell? ⟨gb115, 2, none⟩ = some (.string a0_2) ∧ w'.cell? ⟨gb115, 3, none⟩ = some (.slice A0_3 l0_3.length c0_3)) (ds := []) (mB 30 0) (by kernel_rfl) rfl rfl (cs4 BK115.out) (fun hHeld => ?_); refine with_tabW spec_l4Good.tab10 spec_l4Good.bits10 (fun HT_ HW_ => ?_)
          generalize wc.drew = w29 at BK115 HB hHeld ⊢
          refine pn 0 27 HT_.out ?_
          refine pn 3 30 HT_.out ?_
          refine tk 1 28 HT_.out HW_.out hHeld ?_
          refine pn 2 29 HT_.out ?_
          refine tk 4 31 HT_.out HW_.out hHeld ?_
          refine on 5 32 HT_.out (fun K hK => ?_)
          refine gs Try.func84 #[.int .i64 a0_0] ?_
          with_reducible refine (spec_l4Parts.calls a0_0 t116 _ A15.out).mono ?_
          rintro e w30 ⟨rfl, hb⟩
          refine ⟨_, rfl, ?_⟩
          replace BK115 := bB BK115 hb
          replace HB := bS HB hb
          (try clear hb)
          (try clear hb2)
          (try clear hk)
          (try clear hi)
          refine hK.out _ _ (cs4 BK115.out) (fun hHeld => ?_)
          clear hK K
          refine nm (some 32) ?_
          refine pn 6 33 HT_.out ?_
          refine pn 7 34 HT_.out ?_
          refine pn 8 35 HT_.out ?_
          refine pn 10 37 HT_.out ?_
          refine tk 9 36 HT_.out HW_.out hHeld ?_
          refine on 11 38 HT_.out (fun K hK => ?_)
          refine gs Try.func44 #[.int .i64 a0_1, .int .i64 0, .int .i64 x4_8] ?_
          with_reducible refine (spec_l1In.calls a0_1 0 x4_8 true _ A17.out).mono ?_
          rintro e w' ⟨rfl, ⟨nd, rfl⟩⟩
          refine ⟨_, rfl, ?_⟩
          refine hK.out _ _ (cs4 BK115.out) (fun hHeld => ?_)
          clear hK K
          refine nm (some 38) ?_
          refine pn 12 39 HT_.out ?_
          refine pn 13 40 HT_.out ?_
          refine pn 14 41 HT_.out ?_
          refine pn 15 42 HT_.out ?_
          refine pn 16 43 HT_.out ?_
          refine tk 17 44 HT_.out HW_.out hHeld ?_
          refine pn 18 45 HT_.out ?_
          refine pn 19 46 HT_.out ?_
          refine pn 20 47 HT_.out ?_
          refine pn 21 48 HT_.out ?_
          refine pf 22 49 HT_.out ?_
          refine pf 23 50 HT_.out ?_
          refine pf 24 51 HT_.out ?_
          refine pf 25 52 HT_.out ?_
          refine pf 26 53 HT_.out ?_
          refine pf 27 54 HT_.out ?_
          refine pf 28 55 HT_.out ?_
          refine pn 29 56 HT_.out ?_
          refine done_ (done_of HT_.out (by kernel_rfl)) ?_
          try go_wp2
          go_meet
          case rel => exact ⟨_, (true), (by first | rfl | (simp; done) | (simp [*]; done)), H', ⟨by have := HJ1.out; have := HJ8.out; first | omega | exact Nat.le_refl _⟩, ⟨by exact bk BK115.out⟩, ⟨by exact bw HB.out⟩⟩
       ·
        replace c18 := Bool.eq_false_iff.mpr c18
        subst c18
        have H1 : (spec_l4Good.j2 kj8 true a0_0 a0_1 a0_2 l0_3) = some r := by rw [if_neg (show ¬ (false = true) by decide)] at H; exact H
        clear H
        have H := H1
        clear H1
        have H' := Aside0.mk H
        clear H
        try go_wp2
        replace BK115 := Aside0.mk (blk_drew BK115.out)
        replace HB := Aside0.mk (below_drew1 HB.out)
        refine start_ (n := 30) (S := fun w' => w'.cell? ⟨gb115, 0, none⟩ = some (.int .i64 a0_0) ∧ w'.cell? ⟨gb115, 1, none⟩ = some (.int .i64 a0_1) ∧ w'.cell? ⟨gb115, 2, none⟩ = some (.string a0_2) ∧ w'.cell? ⟨gb115, 3, none⟩ = some (.slice A0_3 l0_3.length c0_3)) (ds := []) (mB 30 0) (by kernel_rfl) rfl rfl (cs4 BK115.out) (fun hHeld => ?_); refine with_tabW spec_l4Good.tab10 spec_l4Good.bits10 (fun HT_ HW_ => ?_)
        generalize wc.drew = w31 at BK115 HB hHeld ⊢
        refine pn 0 27 HT_.out ?_
        refine pn 3 30 HT_.out ?_
        refine tk 1 28 HT_.out HW_.out hHeld ?_
        refine pn 2 29 HT_.out ?_
        refine tk 4 31 HT_.out HW_.out hHeld ?_
        refine on 5 32 HT_.out (fun K hK => ?_)
        refine gs Try.func84 #[.int .i64 a0_0] ?_
        with_reducible refine (spec_l4Parts.calls a0_0 t116 _ A15.out).mono ?_
        rintro e w32 ⟨rfl, hb⟩
        refine ⟨_, rfl, ?_⟩
        replace BK115 := bB BK115 hb
        replace HB := bS HB hb
        (try clear hb)
        (try clear hb2)
        (try clear hk)
        (try clear hi)
        refine hK.out _ _ (cs4 BK115.out) (fun hHeld => ?_)
        clear hK K
        refine nm (some 32) ?_
        refine pn 6 33 HT_.out ?_
        refine pn 7 34 HT_.out ?_
        refine pn 8 35 HT_.out ?_
        refine pn 10 37 HT_.out ?_
        refine tk 9 36 HT_.out HW_.out hHeld ?_
        refine on 11 38 HT_.out (fun K hK => ?_)
        refine gs Try.func44 #[.int .i64 a0_1, .int .i64 0, .int .i64 x4_8] ?_
        with_reducible refine (spec_l1In.calls a0_1 0 x4_8 false _ A17.out).mono ?_
        rintro e w' ⟨rfl, ⟨nd, rfl⟩⟩
        refine ⟨_, rfl, ?_⟩
        refine hK.out _ _ (cs4 BK115.out) (fun hHeld => ?_)
        clear hK K
        refine nm (some 38) ?_
        refine pn 12 39 HT_.out ?_
        refine pn 13 40 HT_.out ?_
        refine pn 14 41 HT_.out ?_
        refine pf 15 42 HT_.out ?_
        refine pf 16 43 HT_.out ?_
        refine pf 17 44 HT_.out ?_
        refine pf 18 45 HT_.out ?_
        refine pf 19 46 HT_.out ?_
        refine pn 20 47 HT_.out ?_
        refine pn 21 48 HT_.out ?_
        refine pf 22 49 HT_.out ?_
        refine pf 23 50 HT_.out ?_
        refine pf 24 51 HT_.out ?_
        refine pf 25 52 HT_.out ?_
        refine pf 26 53 HT_.out ?_
        refine pf 27 54 HT_.out ?_
        refine pf 28 55 HT_.out ?_
        refine pn 29 56 HT_.out ?_
        refine done_ (done_of HT_.out (by kernel_rfl)) ?_
        try go_wp2
        go_meet
        case rel => exact ⟨_, (true), (by first | rfl | (simp; done) | (simp [*]; done)), H', ⟨by have := HJ1.out; have := HJ8.out; first | omega | exact Nat.le_refl _⟩, ⟨by exact bk BK115.out⟩, ⟨by exact bw HB.out⟩⟩
      ·
       rw [if_neg c16] at H; obtain ⟨c16b0, c16b1⟩ := eqN c16
       (first | rw [c16b0] | (simp only [i64_w, i32_w]; rw [c16b0]) | rw [c16b2] | rw [c16b1] | skip)
       have H' := Aside0.mk H
       clear H
       try go_wp2
       replace BK115 := Aside0.mk (blk_drew BK115.out)
       replace HB := Aside0.mk (below_drew1 HB.out)
       refine start_ (n := 30) (S := fun w' => w'.cell? ⟨gb115, 0, none⟩ = some (.int .i64 a0_0) ∧ w'.cell? ⟨gb115, 1, none⟩ = some (.int .i64 a0_1) ∧ w'.cell? ⟨gb115, 2, none⟩ = some (.string a0_2) ∧ w'.cell? ⟨gb115, 3, none⟩ = some (.slice A0_3 l0_3.length c0_3)) (ds := []) (mB 30 0) (by kernel_rfl) rfl rfl (cs4 BK115.out) (fun hHeld => ?_); refine with_tabW spec_l4Good.tab10 spec_l4Good.bits10 (fun HT_ HW_ => ?_)
       generalize wc.drew = w33 at BK115 HB hHeld ⊢
       refine pn 0 27 HT_.out ?_
       refine pn 3 30 HT_.out ?_
       refine tk 1 28 HT_.out HW_.out hHeld ?_
       refine pn 2 29 HT_.out ?_
       refine tk 4 31 HT_.out HW_.out hHeld ?_
       refine on 5 32 HT_.out (fun K hK => ?_)
       refine gs Try.func84 #[.int .i64 a0_0] ?_
       with_reducible refine (spec_l4Parts.calls a0_0 t116 _ A15.out).mono ?_
       rintro e w34 ⟨rfl, hb⟩
       refine ⟨_, rfl, ?_⟩
       replace BK115 := bB BK115 hb
       replace HB := bS HB hb
       (try clear hb)
       (try clear hb2)
       (try clear hk)
       (try clear hi)
       refine hK.out _ _ (cs4 BK115.out) (fun hHeld => ?_)
       clear hK K
       refine nm (some 32) ?_
       refine pn 6 33 HT_.out ?_
       refine pn 7 34 HT_.out ?_
       refine pf 8 35 HT_.out ?_
       refine pf 9 36 HT_.out ?_
       refine pf 10 37 HT_.out ?_
       refine pf 11 38 HT_.out ?_
       refine pf 12 39 HT_.out ?_
       refine pn 13 40 HT_.out ?_
       refine pn 14 41 HT_.out ?_
       refine pf 15 42 HT_.out ?_
       refine pf 16 43 HT_.out ?_
       refine pf 17 44 HT_.out ?_
       refine pf 18 45 HT_.out ?_
       refine pf 19 46 HT_.out ?_
       refine pn 20 47 HT_.out ?_
       refine pn 21 48 HT_.out ?_
       refine pf 22 49 HT_.out ?_
       refine pf 23 50 HT_.out ?_
       refine pf 24 51 HT_.out ?_
       refine pf 25 52 HT_.out ?_
       refine pf 26 53 HT_.out ?_
       refine pf 27 54 HT_.out ?_
       refine pf 28 55 HT_.out ?_
       refine pn 29 56 HT_.out ?_
       refine done_ (done_of HT_.out (by kernel_rfl)) ?_
       try go_wp2
       go_meet
       case rel => exact ⟨_, (true), (by first | rfl | (simp; done) | (simp [*]; done)), H', ⟨by have := HJ1.out; have := HJ8.out; first | omega | exact Nat.le_refl _⟩, ⟨by exact bk BK115.out⟩, ⟨by exact bw HB.out⟩⟩
     case rest =>
      clear HC14
      try clear c1
      try clear p2
      try clear c4
      try clear c8
      try clear c16
      try clear c16b0
      try clear c16b1
      try clear c16b2
      try clear c18
      obtain ⟨kq, x56_13, rfl, HA, HJ13, BK115, HB⟩ := hcut
      cases kq with
      | zero => exact absurd HA.out (by simp [spec_l4Good.j2])
      | succ kj13 =>
       have H := HA.out
       clear HA
       simp only [spec_l4Good.j2] at H
       by_cases c35 : x56_13 = true
       ·
        subst c35
        have H1 : (some false) = some r := by rw [if_pos rfl] at H; exact H
        clear H
        have H := H1
        clear H1
        obtain rfl := Option.some.inj H
        go_wp2
        go_ret
        exact ⟨by first | rfl | (simp [errW_none, errW_some] <;> rfl) | (simp [*, errW_none, errW_some] <;> rfl), by exact bw HB.out⟩
       ·
        replace c35 := Bool.eq_false_iff.mpr c35
        subst c35
        have H1 : (spec_l4Good.l0 kj13 0 a0_0 a0_1 a0_2 l0_3) = some r := by rw [if_neg (show ¬ (false = true) by decide)] at H; exact H
        clear H
        have H := H1
        clear H1
        have H' := Aside0.mk H
        clear H
        go_wp2
        go_loopg [5] kj13 (fun kq v5 w' => ∃ (x5_4 : Int), v5 = .int .i64 x5_4 ∧ Aside0 (spec_l4Good.l0 kq x5_4 a0_0 a0_1 a0_2 l0_3 = some r) ∧ Aside0 (kq ≤ kj13) ∧ Aside0 (w'.heap[gb115]? = some (.cells #[.int .i64 a0_0, .int .i64 a0_1, .string a0_2, (.slice A0_3 l0_3.length c0_3)] 29 (0, 0))) ∧ Aside0 (Below w.heap.size w w'))
        case atStart => exact ⟨(0), (by first | rfl | (simp; done) | (simp [*]; done)), H', ⟨Nat.le_refl _⟩, ⟨by exact bk BK115.out⟩, ⟨by exact bw HB.out⟩⟩
        case round =>
         clear H'
         try clear c1
         try clear p2
         try clear c3
         try clear c4
         try clear c8
         try clear c16
         try clear c16b0
         try clear c16b1
         try clear c16b2
         try clear c18
         try clear c35
         try clear p2
         obtain ⟨x5_4, rfl, HA, HK4, BK115, HB⟩ := hrel
         cases gk with
         | zero => exact absurd HA.out (by simp [spec_l4Good.l0])
         | succ k4 =>
          have H := HA.out
          clear HA
          simp only [spec_l4Good.l0] at H
          by_cases c36 : x5_4 < (l0_3.length : Int)
          ·
           rw [if_pos c36] at H; have c36b0 : decide (x5_4 < (l0_3.length : Int)) = true := decide_eq_true c36; clear c36
           by_cases c37 : 0 ≤ x5_4
           ·
            rw [if_pos c37] at H; have c37b0 : decide (0 ≤ x5_4) = true := decide_eq_true c37; clear c37
            replace H := Option.bind_eq_some_iff.mp H
            obtain ⟨t120, A380, H⟩ := H
            replace H : (if t120 = true then (spec_l4Good.l0 k4 (wrap64 (x5_4 + 1)) a0_0 a0_1 a0_2 l0_3) else (some false)) = some r := H
            have A38 := Aside0.mk A380
            clear A380
            by_cases c39 : t120 = true
            ·
             subst c39
             have H1 : (spec_l4Good.l0 k4 (wrap64 (x5_4 + 1)) a0_0 a0_1 a0_2 l0_3) = some r := by rw [if_pos rfl] at H; exact H
             clear H
             have H := H1
             clear H1
             have H' := Aside0.mk H
             clear H
             have hcz40_0 : wr.cell? ⟨gb115, 0, none⟩ = some (.int .i64 a0_0) := (blk_cell BK115.out 0).trans rfl
             have hcz40_1 : wr.cell? ⟨gb115, 1, none⟩ = some (.int .i64 a0_1) := (blk_cell BK115.out 1).trans rfl
             have hcz40_2 : wr.cell? ⟨gb115, 2, none⟩ = some (.string a0_2) := (blk_cell BK115.out 2).trans rfl
             have hcz40_3 : wr.cell? ⟨gb115, 3, none⟩ = some (.slice A0_3 l0_3.length c0_3) := (blk_cell BK115.out 3).trans rfl
             have hfz40_0 := blk_frozen BK115.out 0
             have hfz40_1 := blk_frozen BK115.out 1
             have hfz40_2 := blk_frozen BK115.out 2
             have hfz40_3 := blk_frozen BK115.out 3
             have p119 : 0 ≤ (x5_4 : Int) := of_decide_eq_true (by first | (with_reducible assumption) | assumption)
             have q119 : x5_4 < (l0_3.length : Int) := of_decide_eq_true (by first | (with_reducible assumption) | assumption)
             obtain ⟨ad119, A119_3, c119_3, e119, hx119_0, hx119_1, hx119_2, hx119_3, hl119_3, hi119_3⟩ := at_T29 HR0_3.out x5_4 p119 q119
             cases e119
             first | replace hx119_0 := (HB.out.cell (World.block_lt_of_cell? w _ hx119_0)).trans hx119_0 | skip
             first | replace hx119_1 := (HB.out.cell (World.block_lt_of_cell? w _ hx119_1)).trans hx119_1 | skip
             first | replace hx119_2 := (HB.out.cell (World.block_lt_of_cell? w _ hx119_2)).trans hx119_2 | skip
             first | replace hx119_3 := (HB.out.cell (World.block_lt_of_cell? w _ hx119_3)).trans hx119_3 | skip
             have HR119_3 := Aside0.mk hi119_3
             have HC119_3 := Aside0.mk hl119_3
             clear hi119_3 hl119_3
             replace p119 := eq_true p119
             replace q119 := eq_true q119
             go_wp2_with (first | ((with_reducible refine gate_callee (f := 60) rfl ?_); refine gl (some 69) Try.func60 #[.agg #[.int .i64 ((rd_T29 l0_3 x5_4).f0), .int .i64 ((rd_T29 l0_3 x5_4).f1), .string ((rd_T29 l0_3 x5_4).f2), .slice A119_3 ((rd_T29 l0_3 x5_4).f3).length c119_3]] ?_; (with_reducible refine (ih k4 (by have := HJ1.out; have := HJ8.out; have := HJ13.out; have := HK4.out; omega) ((rd_T29 l0_3 x5_4).f0) ((rd_T29 l0_3 x5_4).f1) ((rd_T29 l0_3 x5_4).f2) _ _ ((rd_T29 l0_3 x5_4).f3) true _ ?side1 ?side2 A38.out).mono ?_); (case side1 => repeat (first | exact (Kd.C_below HR119_3.out HB.out) | (with_reducible refine Kd.C_alloc ?_ _) | (with_reducible refine Kd.C_drewN ?_ _) | (with_reducible refine Kd.C_drew ?_))); (case side2 => exact HC119_3.out); rintro e w41 ⟨rfl, hb⟩; refine ⟨_, rfl, ?_⟩; replace BK115 := bB BK115 hb; replace HB := bS HB hb; (try clear hb); (try clear hb2); (try clear hk); (try clear hi)))
             go_roundg k4
             case measure => have := HJ1.out; have := HJ8.out; have := HJ13.out; have := HK4.out; omega
             case rel => exact ⟨(wrap64 (x5_4 + 1)), (by first | rfl | (simp; done) | (simp [*]; done)), H', ⟨by have := HJ1.out; have := HJ8.out; have := HJ13.out; have := HK4.out; omega⟩, ⟨by exact bk BK115.out⟩, ⟨by exact bw HB.out⟩⟩
            ·
             replace c39 := Bool.eq_false_iff.mpr c39
             subst c39
             have H1 : (some false) = some r := by rw [if_neg (show ¬ (false = true) by decide)] at H; exact H
             clear H
             have H := H1
             clear H1
             obtain rfl := Option.some.inj H
             have hcz42_0 : wr.cell? ⟨gb115, 0, none⟩ = some (.int .i64 a0_0) := (blk_cell BK115.out 0).trans rfl
             have hcz42_1 : wr.cell? ⟨gb115, 1, none⟩ = some (.int .i64 a0_1) := (blk_cell BK115.out 1).trans rfl
             have hcz42_2 : wr.cell? ⟨gb115, 2, none⟩ = some (.string a0_2) := (blk_cell BK115.out 2).trans rfl
             have hcz42_3 : wr.cell? ⟨gb115, 3, none⟩ = some (.slice A0_3 l0_3.length c0_3) := (blk_cell BK115.out 3).trans rfl
             have hfz42_0 := blk_frozen BK115.out 0
             have hfz42_1 := blk_frozen BK115.out 1
             have hfz42_2 := blk_frozen BK115.out 2
             have hfz42_3 := blk_frozen BK115.out 3
             have p119 : 0 ≤ (x5_4 : Int) := of_decide_eq_true (by first | (with_reducible assumption) | assumption)
             have q119 : x5_4 < (l0_3.length : Int) := of_decide_eq_true (by first | (with_reducible assumption) | assumption)
             obtain ⟨ad119, A119_3, c119_3, e119, hx119_0, hx119_1, hx119_2, hx119_3, hl119_3, hi119_3⟩ := at_T29 HR0_3.out x5_4 p119 q119
             cases e119
             first | replace hx119_0 := (HB.out.cell (World.block_lt_of_cell? w _ hx119_0)).trans hx119_0 | skip
             first | replace hx119_1 := (HB.out.cell (World.block_lt_of_cell? w _ hx119_1)).trans hx119_1 | skip
             first | replace hx119_2 := (HB.out.cell (World.block_lt_of_cell? w _ hx119_2)).trans hx119_2 | skip
             first | replace hx119_3 := (HB.out.cell (World.block_lt_of_cell? w _ hx119_3)).trans hx119_3 | skip
             have HR119_3 := Aside0.mk hi119_3
             have HC119_3 := Aside0.mk hl119_3
             clear hi119_3 hl119_3
             replace p119 := eq_true p119
             replace q119 := eq_true q119
             go_wp2_with (first | ((with_reducible refine gate_callee (f := 60) rfl ?_); refine gl (some 69) Try.func60 #[.agg #[.int .i64 ((rd_T29 l0_3 x5_4).f0), .int .i64 ((rd_T29 l0_3 x5_4).f1), .string ((rd_T29 l0_3 x5_4).f2), .slice A119_3 ((rd_T29 l0_3 x5_4).f3).length c119_3]] ?_; (with_reducible refine (ih k4 (by have := HJ1.out; have := HJ8.out; have := HJ13.out; have := HK4.out; omega) ((rd_T29 l0_3 x5_4).f0) ((rd_T29 l0_3 x5_4).f1) ((rd_T29 l0_3 x5_4).f2) _ _ ((rd_T29 l0_3 x5_4).f3) false _ ?side1 ?side2 A38.out).mono ?_); (case side1 => repeat (first | exact (Kd.C_below HR119_3.out HB.out) | (with_reducible refine Kd.C_alloc ?_ _) | (with_reducible refine Kd.C_drewN ?_ _) | (with_reducible refine Kd.C_drew ?_))); (case side2 => exact HC119_3.out); rintro e w43 ⟨rfl, hb⟩; refine ⟨_, rfl, ?_⟩; replace BK115 := bB BK115 hb; replace HB := bS HB hb; (try clear hb); (try clear hb2); (try clear hk); (try clear hi)))
             go_ret
             exact ⟨by first | rfl | (simp [errW_none, errW_some] <;> rfl) | (simp [*, errW_none, errW_some] <;> rfl), by exact bw HB.out⟩
           ·
            rw [if_neg c37] at H; exact absurd H (by simp)
          ·
           rw [if_neg c36] at H; have c36b0 : decide (x5_4 < (l0_3.length : Int)) = false := decide_eq_false c36; clear c36
           obtain rfl := Option.some.inj H
           have hcz44_0 : wr.cell? ⟨gb115, 0, none⟩ = some (.int .i64 a0_0) := (blk_cell BK115.out 0).trans rfl
           have hcz44_1 : wr.cell? ⟨gb115, 1, none⟩ = some (.int .i64 a0_1) := (blk_cell BK115.out 1).trans rfl
           have hcz44_2 : wr.cell? ⟨gb115, 2, none⟩ = some (.string a0_2) := (blk_cell BK115.out 2).trans rfl
           have hcz44_3 : wr.cell? ⟨gb115, 3, none⟩ = some (.slice A0_3 l0_3.length c0_3) := (blk_cell BK115.out 3).trans rfl
           have hfz44_0 := blk_frozen BK115.out 0
           have hfz44_1 := blk_frozen BK115.out 1
           have hfz44_2 := blk_frozen BK115.out 2
           have hfz44_3 := blk_frozen BK115.out 3
           go_wp2
           go_ret
           exact ⟨by first | rfl | (simp [errW_none, errW_some] <;> rfl) | (simp [*, errW_none, errW_some] <;> rfl), by exact bw HB.out⟩

end Go.Proofs.Ytbbbgochcfccgaa.P
