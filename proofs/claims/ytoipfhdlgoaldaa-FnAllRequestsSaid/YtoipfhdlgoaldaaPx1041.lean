-- Written by a program of this session (wip/tool).
import Derived.Test.YtoipfhdlgoaldaaPx0
import Derived.Test.YtoipfhdlgoaldaaPx1031
namespace Go.Proofs.Ytoipfhdlgoaldaa.P
open Go.RowKit Go.Proofs.YtoipfhdlgoaldaaW.PrintWords Go.Proofs.YtoipfhdlgoaldaaW.PrintLast Go.Proofs.YtoipfhdlgoaldaaW.PrintMore
attribute [local go_sem] max2_int min2_int max_two min_two max_three min_three max_four min_four   -- for this text's walks alone
set_option linter.unusedVariables false
set_option linter.unusedSimpArgs false

/-! ### spec_l20Fields: function 41 -/
mutual
def spec_l20Fields.l0 : Nat → Int → List (S55) → List ByteArray → Int → List Int → Int → Option ((List (S55)) × Int)
 | 0, _, _, _, _, _, _ => none
 | k + 1, x1, x5, x6, x7, x1000, x1001 => if x7 < (x6.length : Int) then (spec_l20Fields.j1 k x1 x5 x6 x7 (decide ((x5.length : Int) < 4)) x1000 x1001) else (spec_l20Fields.j1 k x1 x5 x6 x7 false x1000 x1001)
def spec_l20Fields.j1 : Nat → Int → List (S55) → List ByteArray → Int → Bool → List Int → Int → Option ((List (S55)) × Int)
 | 0, _, _, _, _, _, _, _ => none
 | k + 1, x1, x5, x6, x7, x18, x1000, x1001 => if x18 = true then ((spec_l20Rd_pick.f k x1000 x1001 2).bind fun bt120 => (if bt120.1 = 0 then (if x1 > 0 then (if 0 ≤ x7 then (if x7 < (x6.length : Int) then ((spec_l20Kinded.f k x1000 bt120.2 (rdOf ByteArray.empty x6 x7) x1).bind fun bt124 => (if x5.length < 4398046511104 then (spec_l20Fields.l0 k x1 (x5 ++ [(⟨rdOf ByteArray.empty x6 x7, (⟨bt124.1, bt124.2.1⟩ : S52)⟩ : S55)]) x6 (wrap64 (x7 + 1)) x1000 bt124.2.2) else (none))) else (none)) else (none)) else (spec_l20Fields.l0 k x1 x5 x6 (wrap64 (x7 + 1)) x1000 bt120.2)) else (spec_l20Fields.l0 k x1 x5 x6 (wrap64 (x7 + 1)) x1000 bt120.2))) else (some (x5, x1001))
end
def spec_l20Fields.f (k : Nat) (s0_0 : List Int) (s0_1 : Int) (a1 : Int) : Option ((List (S55)) × Int) := spec_l20Fields.l0 k a1 (([] : List (S55))) (([(⟨#[108, 101, 118, 101, 108]⟩ : ByteArray), (⟨#[111, 119, 110, 101, 114]⟩ : ByteArray), (⟨#[111, 112, 101, 110]⟩ : ByteArray), (⟨#[97, 103, 101]⟩ : ByteArray), (⟨#[98, 111, 115, 115]⟩ : ByteArray)] : List ByteArray)) 0 s0_0 s0_1
theorem spec_l20Fields.mono_l : ∀ k, (∀ y0 y1 y2 y3 y4 y5, LeO (spec_l20Fields.l0 k y0 y1 y2 y3 y4 y5) (spec_l20Fields.l0 (k + 1) y0 y1 y2 y3 y4 y5)) ∧ (∀ y0 y1 y2 y3 y4 y5 y6, LeO (spec_l20Fields.j1 k y0 y1 y2 y3 y4 y5 y6) (spec_l20Fields.j1 (k + 1) y0 y1 y2 y3 y4 y5 y6))
 | 0 => ⟨fun _ _ _ _ _ _ r h => by simp [spec_l20Fields.l0] at h, fun _ _ _ _ _ _ _ r h => by simp [spec_l20Fields.j1] at h⟩
 | k + 1 => by
  obtain ⟨ih0, ih1⟩ := spec_l20Fields.mono_l k
  refine ⟨?_, ?_⟩
  ·
   intro y0 y1 y2 y3 y4 y5
   unfold spec_l20Fields.l0
   repeat' first
   | (with_reducible exact ih0 _ _ _ _ _ _)
   | (with_reducible exact ih1 _ _ _ _ _ _ _)
   | (with_reducible exact spec_l20Kinded.mono _ _ _ _ _)
   | (with_reducible exact spec_l20Rd_pick.mono _ _ _ _)
   | (with_reducible exact LeO.refl _)
   | (with_reducible exact LeO.none _)
   | (with_reducible refine LeO.ite ?_ ?_)
   | (with_reducible refine LeO.bind ?_ (fun _ => ?_))
   | exact ih0 _ _ _ _ _ _
   | exact ih1 _ _ _ _ _ _ _
   | exact spec_l20Kinded.mono _ _ _ _ _
   | exact spec_l20Rd_pick.mono _ _ _ _
   | exact LeO.none _
   | refine LeO.ite ?_ ?_
   | refine LeO.bind ?_ (fun _ => ?_)
  ·
   intro y0 y1 y2 y3 y4 y5 y6
   unfold spec_l20Fields.j1
   repeat' first
   | (with_reducible exact ih0 _ _ _ _ _ _)
   | (with_reducible exact ih1 _ _ _ _ _ _ _)
   | (with_reducible exact spec_l20Kinded.mono _ _ _ _ _)
   | (with_reducible exact spec_l20Rd_pick.mono _ _ _ _)
   | (with_reducible exact LeO.refl _)
   | (with_reducible exact LeO.none _)
   | (with_reducible refine LeO.ite ?_ ?_)
   | (with_reducible refine LeO.bind ?_ (fun _ => ?_))
   | exact ih0 _ _ _ _ _ _
   | exact ih1 _ _ _ _ _ _ _
   | exact spec_l20Kinded.mono _ _ _ _ _
   | exact spec_l20Rd_pick.mono _ _ _ _
   | exact LeO.none _
   | refine LeO.ite ?_ ?_
   | refine LeO.bind ?_ (fun _ => ?_)
theorem spec_l20Fields.mono : ∀ a0 a1 a2 k, LeO (spec_l20Fields.f k a0 a1 a2) (spec_l20Fields.f (k + 1) a0 a1 a2) := by
 intro a0 a1 a2 k
 obtain ⟨ih0, ih1⟩ := spec_l20Fields.mono_l k
 unfold spec_l20Fields.f
 repeat' first
   | (with_reducible exact ih0 _ _ _ _ _ _)
   | (with_reducible exact ih1 _ _ _ _ _ _ _)
   | (with_reducible exact spec_l20Kinded.mono _ _ _ _ _)
   | (with_reducible exact spec_l20Rd_pick.mono _ _ _ _)
   | (with_reducible exact LeO.refl _)
   | (with_reducible exact LeO.none _)
   | (with_reducible refine LeO.ite ?_ ?_)
   | (with_reducible refine LeO.bind ?_ (fun _ => ?_))
   | exact ih0 _ _ _ _ _ _
   | exact ih1 _ _ _ _ _ _ _
   | exact spec_l20Kinded.mono _ _ _ _ _
   | exact spec_l20Rd_pick.mono _ _ _ _
   | exact LeO.none _
   | refine LeO.ite ?_ ?_
   | refine LeO.bind ?_ (fun _ => ?_)
def spec_l20Fields.T7 : Bool × List (List Nat × List Nat) := (true, [([], []), ([], []), ([], []), ([1, 2], [1, 2]), ([3], [3]), ([], []), ([], []), ([], []), ([6, 7], [6, 7]), ([8], [8]), ([], []), ([5, 9, 10], [5, 9, 10]), ([4, 11], [4, 11]), ([12], [12]), ([0, 13, 11], [0, 13]), ([14, 14, 0, 1, 2, 3, 4, 5, 6, 7, 8, 9, 10, 11, 12, 13, 14], [0, 14])])
def spec_l20Fields.B7 : List Nat := [0, 0, 0, 6, 14, 0, 0, 0, 192, 448, 0, 2016, 4094, 8190, 16383, 32767]
theorem spec_l20Fields.tab7 : rtab .any (opsOf Try.f41 7) = spec_l20Fields.T7 := by kernel_rfl
theorem spec_l20Fields.bits7 : waitsOk spec_l20Fields.T7.2 spec_l20Fields.B7 = true := by kernel_rfl
set_option maxHeartbeats 8000000 in
set_option maxRecDepth 100000 in
theorem spec_l20Fields.calls (k : Nat) (g : Nat) (s0_0 : List Int) (s0_1 : Int) (a1 : Int) (r1 : List (S55)) (r2 : Int) (w0 w : World) (hI : IsS80 w0 w g s0_0 s0_1) (hB : Below w0.heap.size w0 w) (h : spec_l20Fields.f k s0_0 s0_1 a1 = some (r1, r2)) :
  Calls Try.prog 41 #[.pointer (some ⟨g, 0, none⟩), .int .i64 a1] w fun e w' => ∃ v0_ : Value, e = .returned (v0_) ∧ Kd.R k55 55 w' w.heap.size (fun _ => True) v0_ r1 ∧ IsS80 w0 w' g s0_0 r2 ∧ Below w0.heap.size w0 w' ∧ KeepBut w w' g none := by
 have hu55 := Try.underlying55
 have HI0 := Aside0.mk hI
 have HK := Aside0.mk (KeepBut.refl w g none)
 have HL := Aside0.mk hB.size
 have HG0 := Aside0.mk (IsS80.ge hI)
 clear hI
 have HW0 := Aside0.mk hB.size
 have HB := Aside0.mk hB
 clear hB
 have H : (spec_l20Fields.l0 k a1 (([] : List (S55))) (([(⟨#[108, 101, 118, 101, 108]⟩ : ByteArray), (⟨#[111, 119, 110, 101, 114]⟩ : ByteArray), (⟨#[111, 112, 101, 110]⟩ : ByteArray), (⟨#[97, 103, 101]⟩ : ByteArray), (⟨#[98, 111, 115, 115]⟩ : ByteArray)] : List ByteArray)) 0 s0_0 s0_1) = some (r1, r2) := h
 clear h
 obtain ⟨y114, hy114⟩ : ∃ y_ : List (S55), y_ = (([] : List (S55))) := ⟨_, rfl⟩
 replace H : (spec_l20Fields.l0 k a1 y114 (([(⟨#[108, 101, 118, 101, 108]⟩ : ByteArray), (⟨#[111, 119, 110, 101, 114]⟩ : ByteArray), (⟨#[111, 112, 101, 110]⟩ : ByteArray), (⟨#[97, 103, 101]⟩ : ByteArray), (⟨#[98, 111, 115, 115]⟩ : ByteArray)] : List ByteArray)) 0 s0_0 s0_1) = some (r1, r2) := by first | (rw [hy114]; with_reducible exact H) | (have H2_ := (Option.bind_some _ _).symm.trans H; rw [hy114]; with_reducible exact H2_) | (have H2_ := (Option.bind_some _ _).symm.trans H; with_reducible exact H2_) | with_reducible exact H | (rw [hy114]; exact H) | exact H
 have Ny114 := Aside0.mk hy114
 clear hy114
 obtain ⟨y117, hy117⟩ : ∃ y_ : List ByteArray, y_ = (([(⟨#[108, 101, 118, 101, 108]⟩ : ByteArray), (⟨#[111, 119, 110, 101, 114]⟩ : ByteArray), (⟨#[111, 112, 101, 110]⟩ : ByteArray), (⟨#[97, 103, 101]⟩ : ByteArray), (⟨#[98, 111, 115, 115]⟩ : ByteArray)] : List ByteArray)) := ⟨_, rfl⟩
 replace H : (spec_l20Fields.l0 k a1 y114 y117 0 s0_0 s0_1) = some (r1, r2) := by first | (rw [hy117]; with_reducible exact H) | (have H2_ := (Option.bind_some _ _).symm.trans H; rw [hy117]; with_reducible exact H2_) | (have H2_ := (Option.bind_some _ _).symm.trans H; with_reducible exact H2_) | with_reducible exact H | (rw [hy117]; exact H) | exact H
 have Ny117 := Aside0.mk hy117
 clear hy117
 have H' := Aside0.mk H
 clear H
 go_enter Try.func41, Try.ntmps41
 go_wp2_with (first | ((with_reducible refine gate_dst (N := 8) rfl ?_); (try (refine gate_guard (by rfl) ?_; dsimp only)); refine Kd.R_lit k55 _ 55 ?hg (N := 8) ?hd (xs := ([] : List (S55))) (inner := []) (ok := fun _ => True) (okp := fun _ => True) ?hr ?hp (fun _ hk => hk) trivial (Below.refl _ _) (Nat.le_refl _) (by simp) ?_; (case hd => rfl); (case hg => rfl); (case hr => first | (go_simp; done) | (go_simp; rfl)); (case hp => exact (Reps.none _ _)); intro v115 w3 ho4 hb hg_ hnew_; clear hg_ hnew_; (first | rw [← Ny114.out] at ho4 | (simp only [Int.reduceToNat] at ho4; rw [← Ny114.out] at ho4)); have HO116 := Aside0.mk (Kd.R_lower ho4 (kz HK)); replace HI0 := ib80 HI0 hb; replace HK := kTb HK hb; replace HB := bS HB hb; clear hb ho4) | ((with_reducible refine gate_dst (N := 9) rfl ?_); (try (refine gate_guard (by rfl) ?_; dsimp only)); refine Kd.R_lit Kd.string _ 9 ?hg (N := 9) ?hd (xs := ([(⟨#[108, 101, 118, 101, 108]⟩ : ByteArray), (⟨#[111, 119, 110, 101, 114]⟩ : ByteArray), (⟨#[111, 112, 101, 110]⟩ : ByteArray), (⟨#[97, 103, 101]⟩ : ByteArray), (⟨#[98, 111, 115, 115]⟩ : ByteArray)] : List ByteArray)) (inner := [.string (⟨#[108, 101, 118, 101, 108]⟩ : ByteArray), .string (⟨#[111, 119, 110, 101, 114]⟩ : ByteArray), .string (⟨#[111, 112, 101, 110]⟩ : ByteArray), .string (⟨#[97, 103, 101]⟩ : ByteArray), .string (⟨#[98, 111, 115, 115]⟩ : ByteArray)]) (ok := fun _ => True) (okp := fun _ => True) ?hr ?hp (fun _ hk => hk) trivial (Below.refl _ _) (Nat.le_refl _) (by simp) ?_; (case hd => rfl); (case hg => rfl); (case hr => first | (go_simp; done) | (go_simp; rfl)); (case hp => exact (Reps.one (show Kd.M Kd.string _ _ _ (⟨#[108, 101, 118, 101, 108]⟩ : ByteArray) [.string (⟨#[108, 101, 118, 101, 108]⟩ : ByteArray)] from rfl) (Reps.one (show Kd.M Kd.string _ _ _ (⟨#[111, 119, 110, 101, 114]⟩ : ByteArray) [.string (⟨#[111, 119, 110, 101, 114]⟩ : ByteArray)] from rfl) (Reps.one (show Kd.M Kd.string _ _ _ (⟨#[111, 112, 101, 110]⟩ : ByteArray) [.string (⟨#[111, 112, 101, 110]⟩ : ByteArray)] from rfl) (Reps.one (show Kd.M Kd.string _ _ _ (⟨#[97, 103, 101]⟩ : ByteArray) [.string (⟨#[97, 103, 101]⟩ : ByteArray)] from rfl) (Reps.one (show Kd.M Kd.string _ _ _ (⟨#[98, 111, 115, 115]⟩ : ByteArray) [.string (⟨#[98, 111, 115, 115]⟩ : ByteArray)] from rfl) (Reps.none _ _))))))); intro v118 w5 ho6 hb hg_ hnew_; clear hg_ hnew_; (first | rw [← Ny117.out] at ho6 | (simp only [Int.reduceToNat] at ho6; rw [← Ny117.out] at ho6)); replace HO116 := Aside0.mk (Kd.R_below (by exact Kd.xR HO116.out) hb); have HO119 := Aside0.mk (Kd.R_lower ho6 (kz HK)); replace HI0 := ib80 HI0 hb; replace HK := kTb HK hb; replace HB := bS HB hb; clear hb ho6))
 go_loopg [5, 7] k (fun kq v5 v7 w' => ∃ (x5_1 : List (S55)) (x7_1 : Int) (x1001_1 : Int), v7 = .int .i64 x7_1 ∧ Aside0 (spec_l20Fields.l0 kq a1 x5_1 y117 x7_1 s0_0 x1001_1 = some (r1, r2)) ∧ Aside0 (kq ≤ k) ∧ Aside0 (Kd.R k55 55 w' w.heap.size (fun _ => True) v5 x5_1) ∧ Aside0 (Kd.R Kd.string 9 w' w.heap.size (fun _ => True) v118 y117) ∧ Aside0 (IsS80 w0 w' g s0_0 x1001_1) ∧ Aside0 (KeepBut w w' g none) ∧ Aside0 (Below w0.heap.size w0 w'))
 case atStart => exact ⟨(y114), (0), (s0_1), (by first | rfl | (simp; done) | (simp [*]; done)), H', ⟨Nat.le_refl _⟩, ⟨by exact Kd.xR HO116.out⟩, ⟨by exact Kd.xR HO119.out⟩, ⟨by exact sw80 HI0.out⟩, ⟨by exact kw HK.out⟩, ⟨by exact bw HB.out⟩⟩
 case round =>
  clear H'
  try clear p2
  try clear c4
  obtain ⟨x5_1, x7_1, x1001_1, rfl, HA, HK1, HO_5, HO_6, HI0, HK, HB⟩ := hrel
  cases gk with
  | zero => exact absurd HA.out (by simp [spec_l20Fields.l0])
  | succ k1 =>
   have H := HA.out
   clear HA
   simp only [spec_l20Fields.l0] at H
   have HC7 := Aside0.mk H
   clear H
   go_upto_region 4 with (fail)
   go_cut [18] (fun v18 wc => ∃ (kq : Nat) (x18_6 : Bool), v18 = .bool x18_6 ∧ Aside0 (spec_l20Fields.j1 kq a1 x5_1 y117 x7_1 x18_6 s0_0 x1001_1 = some (r1, r2)) ∧ Aside0 (kq ≤ k1) ∧ Aside0 (Kd.R k55 55 wc w.heap.size (fun _ => True) u5 x5_1) ∧ Aside0 (Kd.R Kd.string 9 wc w.heap.size (fun _ => True) v118 y117) ∧ Aside0 (IsS80 w0 wc g s0_0 x1001_1) ∧ Aside0 (KeepBut w wc g none) ∧ Aside0 (Below w0.heap.size w0 wc))
   case first =>
    have H := HC7.out
    clear HC7
    by_cases c8 : x7_1 < (y117.length : Int)
    ·
     rw [if_pos c8] at H; have c8b0 : decide (x7_1 < (y117.length : Int)) = true := decide_eq_true c8; clear c8
     (first | rw [c8b0] | (simp only [i64_w, i32_w]; rw [c8b0]) | rw [c8b2] | rw [c8b1] | skip)
     have H' := Aside0.mk H
     clear H
     obtain ⟨Ao9, co9, eo9⟩ := Kd.R_slice HO_6.out
     subst eo9
     obtain ⟨Ao10, co10, eo10⟩ := Kd.R_slice HO_5.out
     subst eo10
     go_wp2
     go_meet
     case rel => exact ⟨_, (decide ((x5_1.length : Int) < 4)), (by first | rfl | (simp; done) | (simp [*]; done)), H', ⟨by have := HK1.out; first | omega | exact Nat.le_refl _⟩, ⟨by exact Kd.xR HO_5.out⟩, ⟨by exact Kd.xR HO_6.out⟩, ⟨by exact sw80 HI0.out⟩, ⟨by exact kw HK.out⟩, ⟨by exact bw HB.out⟩⟩
    ·
     rw [if_neg c8] at H; have c8b0 : decide (x7_1 < (y117.length : Int)) = false := decide_eq_false c8; clear c8
     (first | rw [c8b0] | (simp only [i64_w, i32_w]; rw [c8b0]) | rw [c8b2] | rw [c8b1] | skip)
     have H' := Aside0.mk H
     clear H
     obtain ⟨Ao11, co11, eo11⟩ := Kd.R_slice HO_6.out
     subst eo11
     go_wp2
     go_meet
     case rel => exact ⟨_, (false), (by first | rfl | (simp; done) | (simp [*]; done)), H', ⟨by have := HK1.out; first | omega | exact Nat.le_refl _⟩, ⟨by exact Kd.xR HO_5.out⟩, ⟨by exact Kd.xR HO_6.out⟩, ⟨by exact sw80 HI0.out⟩, ⟨by exact kw HK.out⟩, ⟨by exact bw HB.out⟩⟩
   case rest =>
    clear HC7
    try clear p2
    try clear c4
    try clear c8
    try clear c8b0
    try clear c8b1
    try clear c8b2
    try clear p2
    obtain ⟨kq, x18_6, rfl, HA, HJ6, HO_5, HO_6, HI0, HK, HB⟩ := hcut
    cases kq with
    | zero => exact absurd HA.out (by simp [spec_l20Fields.j1])
    | succ kj6 =>
     have H := HA.out
     clear HA
     simp only [spec_l20Fields.j1] at H
     by_cases c12 : x18_6 = true
     ·
      subst c12
      have H1 : ((spec_l20Rd_pick.f kj6 s0_0 x1001_1 2).bind fun bt120 => (if bt120.1 = 0 then (if a1 > 0 then (if 0 ≤ x7_1 then (if x7_1 < (y117.length : Int) then ((spec_l20Kinded.f kj6 s0_0 bt120.2 (rdOf ByteArray.empty y117 x7_1) a1).bind fun bt124 => (if x5_1.length < 4398046511104 then (spec_l20Fields.l0 kj6 a1 (x5_1 ++ [(⟨rdOf ByteArray.empty y117 x7_1, (⟨bt124.1, bt124.2.1⟩ : S52)⟩ : S55)]) y117 (wrap64 (x7_1 + 1)) s0_0 bt124.2.2) else (none))) else (none)) else (none)) else (spec_l20Fields.l0 kj6 a1 x5_1 y117 (wrap64 (x7_1 + 1)) s0_0 bt120.2)) else (spec_l20Fields.l0 kj6 a1 x5_1 y117 (wrap64 (x7_1 + 1)) s0_0 bt120.2))) = some (r1, r2) := by rw [if_pos rfl] at H; exact H
      clear H
      have H := H1
      clear H1
      replace H := Option.bind_eq_some_iff.mp H
      obtain ⟨⟨t120, t121⟩, A130, H⟩ := H
      replace H : (if t120 = 0 then (if a1 > 0 then (if 0 ≤ x7_1 then (if x7_1 < (y117.length : Int) then ((spec_l20Kinded.f kj6 s0_0 t121 (rdOf ByteArray.empty y117 x7_1) a1).bind fun bt124 => (if x5_1.length < 4398046511104 then (spec_l20Fields.l0 kj6 a1 (x5_1 ++ [(⟨rdOf ByteArray.empty y117 x7_1, (⟨bt124.1, bt124.2.1⟩ : S52)⟩ : S55)]) y117 (wrap64 (x7_1 + 1)) s0_0 bt124.2.2) else (none))) else (none)) else (none)) else (spec_l20Fields.l0 kj6 a1 x5_1 y117 (wrap64 (x7_1 + 1)) s0_0 t121)) else (spec_l20Fields.l0 kj6 a1 x5_1 y117 (wrap64 (x7_1 + 1)) s0_0 t121)) = some (r1, r2) := H
      have A13 := Aside0.mk A130
      clear A130
      by_cases c14 : t120 = 0
      ·
       rw [if_pos c14] at H; obtain ⟨c14b0, c14b1⟩ := eqY c14; clear c14
       by_cases c15 : a1 > 0
       ·
        rw [if_pos c15] at H; have c15b0 : decide (0 < a1) = true := decide_eq_true c15; clear c15
        by_cases c16 : 0 ≤ x7_1
        ·
         rw [if_pos c16] at H; have c16b0 : decide (0 ≤ x7_1) = true := decide_eq_true c16; clear c16
         by_cases c17 : x7_1 < (y117.length : Int)
         ·
          rw [if_pos c17] at H; have c17b0 : decide (x7_1 < (y117.length : Int)) = true := decide_eq_true c17; clear c17
          replace H := Option.bind_eq_some_iff.mp H
          obtain ⟨⟨t124, t125, t126⟩, A180, H⟩ := H
          replace H : (if x5_1.length < 4398046511104 then (spec_l20Fields.l0 kj6 a1 (x5_1 ++ [(⟨rdOf ByteArray.empty y117 x7_1, (⟨t124, t125⟩ : S52)⟩ : S55)]) y117 (wrap64 (x7_1 + 1)) s0_0 t126) else (none)) = some (r1, r2) := H
          have A18 := Aside0.mk A180
          clear A180
          by_cases c19 : x5_1.length < 4398046511104
          ·
           rw [if_pos c19] at H; have LMc19 := Aside0.mk c19; clear c19
           obtain ⟨y127, hy127⟩ : ∃ y_ : List (S55), y_ = (x5_1 ++ [(⟨rdOf ByteArray.empty y117 x7_1, (⟨t124, t125⟩ : S52)⟩ : S55)]) := ⟨_, rfl⟩
           replace H : (spec_l20Fields.l0 kj6 a1 y127 y117 (wrap64 (x7_1 + 1)) s0_0 t126) = some (r1, r2) := by first | (rw [hy127]; with_reducible exact H) | (have H2_ := (Option.bind_some _ _).symm.trans H; rw [hy127]; with_reducible exact H2_) | (have H2_ := (Option.bind_some _ _).symm.trans H; with_reducible exact H2_) | with_reducible exact H | (rw [hy127]; exact H) | exact H
           have Ny127 := Aside0.mk hy127
           clear hy127
           have H' := Aside0.mk H
           clear H
           try go_wp2_with (first | ((with_reducible refine gate_callee (f := 33) rfl ?_); refine gl (some 22) Try.func33 #[.pointer (some ⟨g, 0, none⟩), .int .i64 2] ?_; (with_reducible refine (spec_l20Rd_pick.calls kj6 g s0_0 x1001_1 2 t120 t121 w0 _ ?side1 ?side2 A13.out).mono ?_); (case side1 => exact sw80 HI0.out); (case side2 => exact bw HB.out); rintro e w20 ⟨rfl, hi, hb, hk⟩; refine ⟨_, rfl, ?_⟩; replace HO_5 := Aside0.mk (Kd.R_mono (Kd.R_keep (IsS80.apart (show IsS80 w0 _ g s0_0 x1001_1 from by exact sw80 HI0.out) (by exact Kd.xR HO_5.out) (by decide)) hk (fun _ h => h.2)) (fun _ h => h.1)); replace HO_6 := Aside0.mk (Kd.R_mono (Kd.R_keep (IsS80.apart (show IsS80 w0 _ g s0_0 x1001_1 from by exact sw80 HI0.out) (by exact Kd.xR HO_6.out) (by decide)) hk (fun _ h => h.2)) (fun _ h => h.1)); replace HK := kT HK hk; replace HB := Aside0.mk (hb); replace HI0 := Aside0.mk (hi); (try clear hb); (try clear hb2); (try clear hk); (try clear hi)))
           replace HO_5 := Aside0.mk (Kd.R_drew HO_5.out)
           replace HO_6 := Aside0.mk (Kd.R_drew HO_6.out)
           replace HI0 := Aside0.mk (IsS80.drew HI0.out)
           replace HK := Aside0.mk (keep_drew HK.out)
           replace HB := Aside0.mk (below_drew1 HB.out)
           obtain ⟨Ao22, co22, eo22⟩ := Kd.R_slice HO_6.out
           (first | subst eo22 | (injection eo22 with f1_ f2_ f3_; have f4_ := f1_.symm; have f5_ := f3_.symm; clear f1_ f2_ f3_; subst f4_; subst f5_))
           have p122 : 0 ≤ (x7_1 : Int) := of_decide_eq_true (by first | (with_reducible assumption) | assumption)
           have q122 : x7_1 < (y117.length : Int) := of_decide_eq_true (by first | (with_reducible assumption) | assumption)
           obtain ⟨ad122, e122, hx122_0⟩ := Kd.at_string (Kd.R_reads' HO_6.out).2.2 x7_1 p122 q122
           cases e122
           replace p122 := eq_true p122
           replace q122 := eq_true q122
           have p123 : 0 ≤ (x7_1 : Int) := of_decide_eq_true (by first | (with_reducible assumption) | assumption)
           have q123 : x7_1 < (y117.length : Int) := of_decide_eq_true (by first | (with_reducible assumption) | assumption)
           obtain ⟨ad123, e123, hx123_0⟩ := Kd.at_string (Kd.R_reads' HO_6.out).2.2 x7_1 p123 q123
           obtain rfl : ad122 = ad123 := (by injection e123)
           replace p123 := eq_true p123
           replace q123 := eq_true q123
           refine start_ (n := 16) (S := fun w' => w'.cell? (ad122.add (x7_1).toNat) = some (.string (rdOf ByteArray.empty y117 x7_1)) ∧ w'.cell? (ad122.add (x7_1).toNat) = some (.string (rdOf ByteArray.empty y117 x7_1))) (ds := [13, 14]) (mB 16 0) (by kernel_rfl) rfl rfl ⟨hx122_0, hx123_0⟩ (fun hHeld => ?_); refine with_tabW spec_l20Fields.tab7 spec_l20Fields.bits7 (fun HT_ HW_ => ?_)
           generalize w20.drew = w21 at HO_5 HO_6 HI0 HK HB hx122_0 hx123_0 hHeld ⊢
           refine pn 0 28 HT_.out ?_
           refine pn 1 29 HT_.out ?_
           refine pn 2 30 HT_.out ?_
           refine pn 3 31 HT_.out ?_
           refine pn 5 33 HT_.out ?_
           refine pn 6 34 HT_.out ?_
           refine pn 7 35 HT_.out ?_
           refine pn 8 36 HT_.out ?_
           refine pn 10 38 HT_.out ?_
           refine tk 4 32 HT_.out HW_.out hHeld ?_
           refine tk 9 37 HT_.out HW_.out hHeld ?_
           refine on 11 39 HT_.out (fun K hK => ?_)
           refine gs Try.func60 #[.pointer (some ⟨g, 0, none⟩), .string (rdOf ByteArray.empty y117 x7_1), .int .i64 a1] ?_
           with_reducible refine (spec_l20Kinded.calls kj6 g s0_0 t121 (rdOf ByteArray.empty y117 x7_1) a1 t124 t125 t126 w0 _ ?side1 ?side2 A18.out).mono ?_
           (case side1 => exact sw80 HI0.out)
           (case side2 => exact bw HB.out)
           rintro e w23 ⟨rfl, hi, hb, hk⟩
           have HS0_ := keep_cell hk (hHeld.1) (by first | (rw [add_block]; exact Kd.own_blk (IsS80.own_ne HI0.out HO_6.out (by decide))) | (show (Addr.add _ _).block ≠ _; rw [add_block]; exact Kd.own_blk (IsS80.own_ne HI0.out HO_6.out (by decide))) | exact Kd.own_blk (IsS80.own_ne HI0.out HO_6.out (by decide)))
           have HS1_ := keep_cell hk (hHeld.2) (by first | (rw [add_block]; exact Kd.own_blk (IsS80.own_ne HI0.out HO_6.out (by decide))) | (show (Addr.add _ _).block ≠ _; rw [add_block]; exact Kd.own_blk (IsS80.own_ne HI0.out HO_6.out (by decide))) | exact Kd.own_blk (IsS80.own_ne HI0.out HO_6.out (by decide)))
           refine ⟨_, rfl, ?_⟩
           replace HO_5 := Aside0.mk (Kd.R_mono (Kd.R_keep (IsS80.apart (show IsS80 w0 _ g s0_0 t121 from by exact sw80 HI0.out) (by exact Kd.xR HO_5.out) (by decide)) hk (fun _ h => h.2)) (fun _ h => h.1))
           replace HO_6 := Aside0.mk (Kd.R_mono (Kd.R_keep (IsS80.apart (show IsS80 w0 _ g s0_0 t121 from by exact sw80 HI0.out) (by exact Kd.xR HO_6.out) (by decide)) hk (fun _ h => h.2)) (fun _ h => h.1))
           replace HK := kT HK hk
           replace HB := Aside0.mk (hb)
           replace HI0 := Aside0.mk (hi)
           (try clear hb)
           (try clear hb2)
           (try clear hk)
           (try clear hi)
           refine hK.out _ _ ⟨HS0_, HS1_⟩ (fun hHeld => ?_)
           clear hK K
           refine nm (some 39) ?_
           refine pn 12 40 HT_.out ?_
           refine last_ (i := 13) (N := some 41) (mB 16 16383) rfl rfl (one_of HT_.out (by kernel_rfl)) (by decide) (fun K hK => ?_)
           refine value_ (w1 := ?_) (v := ?_) (by rfl) rfl ?_ ?_
           rotate_left 2
           ·
            go_simp
            constructor
            ·
             rfl
            ·
             rfl
           refine hK.out _ _ ?_
           clear hK K
           refine nm (some 41) ?_
           refine last_ (i := 14) (N := some 42) (mB 16 32767) rfl rfl (one_of HT_.out (by kernel_rfl)) (by decide) (fun K hK => ?_)
           refine Kd.R_append_step k55 w.heap.size (by rfl) (.tmp 28) (.tmp 41) 34 55 (.agg #[(.string ⟨#[]⟩), (.int .i64 0), (.int .i64 0)]) 32 rfl Try.underlying34 info55 rfl (by decide) (by omega) u5 x5_1 (⟨rdOf ByteArray.empty y117 x7_1, (⟨t124, t125⟩ : S52)⟩ : S55) [.string (rdOf ByteArray.empty y117 x7_1), .int .i64 t124, .int .i64 t125] (fun _ => True) (fun _ => False) rfl rfl ?aP (fun _ hk => hk.elim) ?aF ?aO (Below.refl _ _) ?aS ?aL ?_
           (case aP => exact k55_mkM _ _ _ (⟨rdOf ByteArray.empty y117 x7_1, (⟨t124, t125⟩ : S52)⟩ : S55))
           (case aF => exact (fun _ _ => trivial))
           (case aO => exact (by exact Kd.xR HO_5.out))
           (case aS => exact (kz HK))
           (case aL => have := LMc19.out; omega)
           intro v128 w24 ho hb hg hat
           rw [← Ny127.out] at ho
           replace HO_6 := Aside0.mk (Kd.R_over' (by exact Kd.xR HO_6.out) (Kd.R_typed (by exact Kd.xR HO_5.out)) (by decide) hg)
           replace HI0 := Aside0.mk (IsS80.grown (by exact sw80 HI0.out) hg (IsS80.own_ne HI0.out HO_5.out (by decide)))
           replace HB := Aside0.mk (below_weaken (by exact bw HB.out) HL.out hb)
           replace HK := Aside0.mk (KeepBut.trans (by exact kw HK.out) (KeepBut.of_grown hg g) (Kd.R_base2 HO_5.out))
           have HO129 := Aside0.mk (ho)
           clear HO_5
           clear ho hb hg hat
           refine hK.out _ _ ?_
           clear hK K
           refine nm (some 42) ?_
           refine pn 15 5 HT_.out ?_
           refine done_ (done_of HT_.out (by kernel_rfl)) ?_
           try go_wp2
           go_roundg kj6
           case measure => have := HK1.out; have := HJ6.out; omega
           case rel => exact ⟨(y127), (wrap64 (x7_1 + 1)), (t126), (by first | rfl | (simp; done) | (simp [*]; done)), H', ⟨by have := HK1.out; have := HJ6.out; omega⟩, ⟨by exact Kd.xR HO129.out⟩, ⟨by exact Kd.xR HO_6.out⟩, ⟨by exact sw80 HI0.out⟩, ⟨by exact kw HK.out⟩, ⟨by exact bw HB.out⟩⟩
          ·
           rw [if_neg c19] at H; exact absurd H (by simp)
         ·
          rw [if_neg c17] at H; exact absurd H (by simp)
        ·
         rw [if_neg c16] at H; exact absurd H (by simp)
       ·
        rw [if_neg c15] at H; have c15b0 : decide (0 < a1) = false := decide_eq_false c15; clear c15
        have H' := Aside0.mk H
        clear H
        go_wp2_with (first | ((with_reducible refine gate_callee (f := 33) rfl ?_); refine gl (some 22) Try.func33 #[.pointer (some ⟨g, 0, none⟩), .int .i64 2] ?_; (with_reducible refine (spec_l20Rd_pick.calls kj6 g s0_0 x1001_1 2 t120 t121 w0 _ ?side1 ?side2 A13.out).mono ?_); (case side1 => exact sw80 HI0.out); (case side2 => exact bw HB.out); rintro e w25 ⟨rfl, hi, hb, hk⟩; refine ⟨_, rfl, ?_⟩; replace HO_5 := Aside0.mk (Kd.R_mono (Kd.R_keep (IsS80.apart (show IsS80 w0 _ g s0_0 x1001_1 from by exact sw80 HI0.out) (by exact Kd.xR HO_5.out) (by decide)) hk (fun _ h => h.2)) (fun _ h => h.1)); replace HO_6 := Aside0.mk (Kd.R_mono (Kd.R_keep (IsS80.apart (show IsS80 w0 _ g s0_0 x1001_1 from by exact sw80 HI0.out) (by exact Kd.xR HO_6.out) (by decide)) hk (fun _ h => h.2)) (fun _ h => h.1)); replace HK := kT HK hk; replace HB := Aside0.mk (hb); replace HI0 := Aside0.mk (hi); (try clear hb); (try clear hb2); (try clear hk); (try clear hi)))
        go_roundg kj6
        case measure => have := HK1.out; have := HJ6.out; omega
        case rel => exact ⟨(x5_1), (wrap64 (x7_1 + 1)), (t121), (by first | rfl | (simp; done) | (simp [*]; done)), H', ⟨by have := HK1.out; have := HJ6.out; omega⟩, ⟨by exact Kd.xR HO_5.out⟩, ⟨by exact Kd.xR HO_6.out⟩, ⟨by exact sw80 HI0.out⟩, ⟨by exact kw HK.out⟩, ⟨by exact bw HB.out⟩⟩
      ·
       rw [if_neg c14] at H; obtain ⟨c14b0, c14b1⟩ := eqN c14
       have H' := Aside0.mk H
       clear H
       go_wp2_with (first | ((with_reducible refine gate_callee (f := 33) rfl ?_); refine gl (some 22) Try.func33 #[.pointer (some ⟨g, 0, none⟩), .int .i64 2] ?_; (with_reducible refine (spec_l20Rd_pick.calls kj6 g s0_0 x1001_1 2 t120 t121 w0 _ ?side1 ?side2 A13.out).mono ?_); (case side1 => exact sw80 HI0.out); (case side2 => exact bw HB.out); rintro e w26 ⟨rfl, hi, hb, hk⟩; refine ⟨_, rfl, ?_⟩; replace HO_5 := Aside0.mk (Kd.R_mono (Kd.R_keep (IsS80.apart (show IsS80 w0 _ g s0_0 x1001_1 from by exact sw80 HI0.out) (by exact Kd.xR HO_5.out) (by decide)) hk (fun _ h => h.2)) (fun _ h => h.1)); replace HO_6 := Aside0.mk (Kd.R_mono (Kd.R_keep (IsS80.apart (show IsS80 w0 _ g s0_0 x1001_1 from by exact sw80 HI0.out) (by exact Kd.xR HO_6.out) (by decide)) hk (fun _ h => h.2)) (fun _ h => h.1)); replace HK := kT HK hk; replace HB := Aside0.mk (hb); replace HI0 := Aside0.mk (hi); (try clear hb); (try clear hb2); (try clear hk); (try clear hi)))
       go_roundg kj6
       case measure => have := HK1.out; have := HJ6.out; omega
       case rel => exact ⟨(x5_1), (wrap64 (x7_1 + 1)), (t121), (by first | rfl | (simp; done) | (simp [*]; done)), H', ⟨by have := HK1.out; have := HJ6.out; omega⟩, ⟨by exact Kd.xR HO_5.out⟩, ⟨by exact Kd.xR HO_6.out⟩, ⟨by exact sw80 HI0.out⟩, ⟨by exact kw HK.out⟩, ⟨by exact bw HB.out⟩⟩
     ·
      replace c12 := Bool.eq_false_iff.mpr c12
      subst c12
      have H1 : (some (x5_1, x1001_1)) = some (r1, r2) := by rw [if_neg (show ¬ (false = true) by decide)] at H; exact H
      clear H
      have H := H1
      clear H1
      simp only [Option.some.injEq, Prod.mk.injEq] at H
      obtain ⟨rfl, rfl⟩ := H
      go_wp2
      go_ret
      exact ⟨_, by first | rfl | (simp [errW_none, errW_some] <;> rfl) | (simp [*, errW_none, errW_some] <;> rfl), by exact Kd.xR HO_5.out, by exact sw80 HI0.out, by exact bw HB.out, by exact kw HK.out⟩

end Go.Proofs.Ytoipfhdlgoaldaa.P
