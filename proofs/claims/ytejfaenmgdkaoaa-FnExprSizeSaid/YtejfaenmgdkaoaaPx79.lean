-- Written by a program of this session (wip/tool).
import Derived.Test.YtejfaenmgdkaoaaPx0
import Derived.Test.YtejfaenmgdkaoaaPx1
import Derived.Test.YtejfaenmgdkaoaaPx78
namespace Go.Proofs.Ytejfaenmgdkaoaa.P
open Go.RowKit Go.Proofs.YtejfaenmgdkaoaaW.PrintWords Go.Proofs.YtejfaenmgdkaoaaW.PrintLast Go.Proofs.YtejfaenmgdkaoaaW.PrintMore
attribute [local go_sem] max2_int min2_int max_two min_two max_three min_three max_four min_four   -- for this text's walks alone
set_option linter.unusedVariables false
set_option linter.unusedSimpArgs false

/-! ### spec_l20Number: function 86 -/
def spec_l20Number.j0 : Nat → Int → Int → List Int → Int → Option (Int × Int × ByteArray × (List (S55)) × Int)
 | 0, _, _, _, _ => none
 | k + 1, x1, x6, x1000, x1001 => if x6 = 0 then (some (6, 0, (⟨#[]⟩ : ByteArray), ([] : List (S55)), x1001)) else (if x6 = 1 then ((some (([(⟨#[108, 101, 118, 101, 108]⟩ : ByteArray), (⟨#[97, 103, 101]⟩ : ByteArray)] : List ByteArray) : List ByteArray)).bind fun y701 => ((spec_l20Rd_pick.f k x1000 x1001 2).bind fun bt704 => (if 0 ≤ bt704.1 then (if bt704.1 < (y701.length : Int) then (some (7, 0, rdOf ByteArray.empty y701 bt704.1, ([] : List (S55)), bt704.2)) else (none)) else (none)))) else (if x6 = 2 then (if x1 > 0 then ((some (([(⟨#[108, 101, 118, 101, 108]⟩ : ByteArray), (⟨#[97, 103, 101]⟩ : ByteArray)] : List ByteArray) : List ByteArray)).bind fun y707 => ((spec_l20Rd_pick.f k x1000 x1001 2).bind fun bt710 => (if 0 ≤ bt710.1 then (if bt710.1 < (y707.length : Int) then ((spec_l20Thing.f k x1000 bt710.2 (wrap64 (x1 - 1))).bind fun bt713 => (some (8, 0, rdOf ByteArray.empty y707 bt710.1, (([(⟨bt713.1, bt713.2.1, bt713.2.2.1, bt713.2.2.2.1⟩ : S55)] : List (S55))), bt713.2.2.2.2))) else (none)) else (none)))) else ((spec_l20Rd_pick.f k x1000 x1001 5).bind fun bt723 => (some (2, bt723.1, (⟨#[]⟩ : ByteArray), ([] : List (S55)), bt723.2)))) else ((spec_l20Rd_pick.f k x1000 x1001 5).bind fun bt725 => (some (2, bt725.1, (⟨#[]⟩ : ByteArray), ([] : List (S55)), bt725.2)))))
def spec_l20Number.f (k : Nat) (s0_0 : List Int) (s0_1 : Int) (a1 : Int) : Option (Int × Int × ByteArray × (List (S55)) × Int) := (spec_l20Rd_pick.f k s0_0 s0_1 4).bind fun bt699 => (spec_l20Number.j0 k a1 bt699.1 s0_0 bt699.2)
theorem spec_l20Number.mono_l : ∀ k, (∀ y0 y1 y2 y3, LeO (spec_l20Number.j0 k y0 y1 y2 y3) (spec_l20Number.j0 (k + 1) y0 y1 y2 y3))
 | 0 => fun _ _ _ _ r h => by simp [spec_l20Number.j0] at h
 | k + 1 => by
  have ih0 := spec_l20Number.mono_l k
  ·
   intro y0 y1 y2 y3
   unfold spec_l20Number.j0
   repeat' first
   | (with_reducible exact ih0 _ _ _ _)
   | (with_reducible exact spec_l20Rd_pick.mono _ _ _ _)
   | (with_reducible exact spec_l20Thing.mono _ _ _ _)
   | (with_reducible exact LeO.refl _)
   | (with_reducible exact LeO.none _)
   | (with_reducible refine LeO.ite ?_ ?_)
   | (with_reducible refine LeO.bind ?_ (fun _ => ?_))
   | exact ih0 _ _ _ _
   | exact spec_l20Rd_pick.mono _ _ _ _
   | exact spec_l20Thing.mono _ _ _ _
   | exact LeO.none _
   | refine LeO.ite ?_ ?_
   | refine LeO.bind ?_ (fun _ => ?_)
theorem spec_l20Number.mono : ∀ a0 a1 a2 k, LeO (spec_l20Number.f k a0 a1 a2) (spec_l20Number.f (k + 1) a0 a1 a2) := by
 intro a0 a1 a2 k
 have ih0 := spec_l20Number.mono_l k
 unfold spec_l20Number.f
 repeat' first
   | (with_reducible exact ih0 _ _ _ _)
   | (with_reducible exact spec_l20Rd_pick.mono _ _ _ _)
   | (with_reducible exact spec_l20Thing.mono _ _ _ _)
   | (with_reducible exact LeO.refl _)
   | (with_reducible exact LeO.none _)
   | (with_reducible refine LeO.ite ?_ ?_)
   | (with_reducible refine LeO.bind ?_ (fun _ => ?_))
   | exact ih0 _ _ _ _
   | exact spec_l20Rd_pick.mono _ _ _ _
   | exact spec_l20Thing.mono _ _ _ _
   | exact LeO.none _
   | refine LeO.ite ?_ ?_
   | refine LeO.bind ?_ (fun _ => ?_)
def spec_l20Number.T8 : Bool × List (List Nat × List Nat) := (true, [([], []), ([], []), ([1], [1]), ([0, 2], [0, 2]), ([3], [3]), ([], []), ([], []), ([6], [6]), ([5, 7, 2], [5, 7]), ([8], [8]), ([4, 9], [4, 9]), ([10, 8, 0, 1, 2, 3, 4, 5, 6, 7, 8, 9, 10], [10])])
def spec_l20Number.B8 : List Nat := [0, 0, 2, 7, 15, 0, 0, 64, 230, 486, 1023, 2047]
theorem spec_l20Number.tab8 : rtab .any (opsOf Try.f86 8) = spec_l20Number.T8 := by kernel_rfl
theorem spec_l20Number.bits8 : waitsOk spec_l20Number.T8.2 spec_l20Number.B8 = true := by kernel_rfl
abbrev spec_l20Number.m0 : Array Bool := #[false, false, false, false, false, false, false, false, false, false, false, false]
abbrev spec_l20Number.m1 : Array Bool := #[false, true, false, false, false, false, false, false, false, false, false, false]
abbrev spec_l20Number.m2 : Array Bool := #[false, true, false, false, false, true, false, false, false, false, false, false]
abbrev spec_l20Number.m3 : Array Bool := #[false, true, false, false, false, true, true, false, false, false, false, false]
set_option maxHeartbeats 8000000 in
set_option maxRecDepth 100000 in
theorem spec_l20Number.calls (k : Nat) (g : Nat) (s0_0 : List Int) (s0_1 : Int) (a1 : Int) (r1 : Int) (r2 : Int) (r3 : ByteArray) (r4 : List (S55)) (r5 : Int) (w0 w : World) (hI : IsS105 w0 w g s0_0 s0_1) (hB : Below w0.heap.size w0 w) (h : spec_l20Number.f k s0_0 s0_1 a1 = some (r1, r2, r3, r4, r5)) :
  Calls Try.prog 86 #[.pointer (some ⟨g, 0, none⟩), .int .i64 a1] w fun e w' => ∃ v3_ : Value, e = .returned (.agg #[.int .i64 r1, .int .i64 r2, .string r3, v3_]) ∧ Kd.N k55 55 w' w.heap.size (fun k_ => (w.heap.size ≤ k_)) v3_ r4 ∧ IsS105 w0 w' g s0_0 r5 ∧ Below w0.heap.size w0 w' ∧ KeepBut w w' g none := by
 have hu55 := Try.underlying55
 have HI0 := Aside0.mk hI
 have HK := Aside0.mk (KeepBut.refl w g none)
 have HL := Aside0.mk hB.size
 have HG0 := Aside0.mk (IsS105.ge hI)
 clear hI
 have HW0 := Aside0.mk hB.size
 have HB := Aside0.mk hB
 clear hB
 have H : ((spec_l20Rd_pick.f k s0_0 s0_1 4).bind fun bt699 => (spec_l20Number.j0 k a1 bt699.1 s0_0 bt699.2)) = some (r1, r2, r3, r4, r5) := h
 clear h
 have HC3 := Aside0.mk H
 clear H
 go_enter Try.func86, Try.ntmps86
 go_upto_region 1 with (first | ((with_reducible refine gate_dst (N := 4) rfl ?_); refine box_event ?hg (N := 4) ?hd (cs := #[.int .i64 0, .int .i64 0, .string (⟨#[]⟩ : ByteArray), .slice none 0 0]) (t := 55) ?hr ?_; (case hd => rfl); (case hg => rfl); (case hr => first | (go_simp; done) | (go_simp; rfl)); intro gb698 hg w4 hbox hb; have n0_ := Aside0.mk (IsS105.below (by exact sw105 HI0.out) hb); have n1_ := Aside0.mk (KeepBut.trans (by exact kw HK.out) (KeepBut.of_below hb g none) (.inl rfl)); have n2_ := Aside0.mk (below_step (by exact bw HB.out) hb); have n3_ := Aside0.mk (hbox); have n4_ := Aside0.mk ((by rw [hg]; exact (keep_size (w := w) (g := g) (row := none) (by exact kw HK.out)) : w.heap.size ≤ gb698)); have n5_ := Aside0.mk ((Nat.le_trans HW0.out (by rw [hg]; exact (keep_size (w := w) (g := g) (row := none) (by exact kw HK.out)) : w.heap.size ≤ gb698) : w0.heap.size ≤ gb698)); have n6_ := Aside0.mk ((by rw [hg]; exact Nat.ne_of_lt (IsS105.lt (show IsS105 w0 _ g s0_0 s0_1 from by exact sw105 HI0.out)) : g ≠ gb698)); have n7_ := Aside0.mk ((by rw [hg]; exact Nat.ne_of_gt (IsS105.lt (show IsS105 w0 _ g s0_0 s0_1 from by exact sw105 HI0.out)) : gb698 ≠ g)); clear HI0; clear HK; clear HB; have HI0 := n0_; have HK := n1_; have HB := n2_; have BK698 := n3_; have GW698 := n4_; have GE698 := n5_; have NB0_698 := n6_; have NB698_0 := n7_; clear n0_ n1_ n2_ n3_ n4_ n5_ n6_ n7_; clear hb hbox hg))
 (try simp only [Act.put, List.setIfInBounds_toArray, List.set_cons_zero, List.set_cons_succ])
 go_cut [6] (fun v6 wc => ∃ (kq : Nat) (x6_2 : Int) (x1001_2 : Int), v6 = .int .i64 x6_2 ∧ Aside0 (spec_l20Number.j0 kq a1 x6_2 s0_0 x1001_2 = some (r1, r2, r3, r4, r5)) ∧ Aside0 (kq ≤ k) ∧ Aside0 (wc.heap[gb698]? = some (.cells #[.int .i64 0, .int .i64 0, .string (⟨#[]⟩ : ByteArray), (.slice none 0 0)] 55 (0, 0))) ∧ Aside0 (IsS105 w0 wc g s0_0 x1001_2) ∧ Aside0 (KeepBut w wc g none) ∧ Aside0 (Below w0.heap.size w0 wc))
 case first =>
  have H := HC3.out
  clear HC3
  replace H := Option.bind_eq_some_iff.mp H
  obtain ⟨⟨t699, t700⟩, A50, H⟩ := H
  replace H : (spec_l20Number.j0 k a1 t699 s0_0 t700) = some (r1, r2, r3, r4, r5) := H
  have A5 := Aside0.mk A50
  clear A50
  have H' := Aside0.mk H
  clear H
  go_wp2_with (first | ((with_reducible refine gate_callee (f := 62) rfl ?_); refine gl (some 6) Try.func62 #[.pointer (some ⟨g, 0, none⟩), .int .i64 4] ?_; (with_reducible refine (spec_l20Rd_pick.calls k g s0_0 s0_1 4 t699 t700 w0 _ ?side1 ?side2 A5.out).mono ?_); (case side1 => exact sw105 HI0.out); (case side2 => exact bw HB.out); rintro e w6 ⟨rfl, hi, hb, hk⟩; refine ⟨_, rfl, ?_⟩; have n0_ := Aside0.mk (KeepBut.blk hk (g' := gb698) (o := .cells #[.int .i64 0, .int .i64 0, .string (⟨#[]⟩ : ByteArray), .slice none 0 0] 55 (0, 0)) (by exact bk BK698.out) NB698_0.out (by simp)); have n1_ := Aside0.mk (KeepBut.trans (by exact kw HK.out) hk (.inl rfl)); have n2_ := Aside0.mk (hb); have n3_ := Aside0.mk (hi); clear BK698; clear HK; clear HB; clear HI0; have BK698 := n0_; have HK := n1_; have HB := n2_; have HI0 := n3_; clear n0_ n1_ n2_ n3_; (try clear hb); (try clear hb2); (try clear hk); (try clear hi)))
  go_meet
  case rel => exact ⟨_, (t699), (t700), (by first | rfl | (simp; done) | (simp [*]; done)), H', ⟨by first | omega | exact Nat.le_refl _⟩, ⟨by exact bk BK698.out⟩, ⟨by exact sw105 HI0.out⟩, ⟨by exact kw HK.out⟩, ⟨by exact bw HB.out⟩⟩
 case rest =>
  clear HC3
  try clear p2
  try clear c6
  obtain ⟨kq, x6_2, x1001_2, rfl, HA, HJ2, BK698, HI0, HK, HB⟩ := hcut
  cases kq with
  | zero => exact absurd HA.out (by simp [spec_l20Number.j0])
  | succ kj2 =>
   have H := HA.out
   clear HA
   simp only [spec_l20Number.j0] at H
   by_cases c7 : x6_2 = 0
   ·
    rw [if_pos c7] at H
    have c7b0 : (x6_2 == 0) = true := beq_iff_eq.mpr c7
    have c7b1 : (x6_2 != 0) = false := bne_eq_false_iff_eq.mpr c7
    clear c7
    simp only [Option.some.injEq, Prod.mk.injEq] at H
    obtain ⟨rfl, rfl, rfl, rfl, rfl⟩ := H
    have hnb8 := NB698_0.out
    have hnc8 := NB0_698.out
    have hcz9_0 : wc.cell? ⟨gb698, 0, none⟩ = some (.int .i64 0) := (blk_cell BK698.out 0).trans rfl
    have hcz9_1 : wc.cell? ⟨gb698, 1, none⟩ = some (.int .i64 0) := (blk_cell BK698.out 1).trans rfl
    have hcz9_2 : wc.cell? ⟨gb698, 2, none⟩ = some (.string (⟨#[]⟩ : ByteArray)) := (blk_cell BK698.out 2).trans rfl
    have hcz9_3 : wc.cell? ⟨gb698, 3, none⟩ = some (.slice none 0 0) := (blk_cell BK698.out 3).trans rfl
    have hfz9_0 := blk_frozen BK698.out 0
    have hfz9_1 := blk_frozen BK698.out 1
    have hfz9_2 := blk_frozen BK698.out 2
    have hfz9_3 := blk_frozen BK698.out 3
    go_wp2
    refine bodyPost_ret (results_cell_row rfl _ _ gb698 55 #[.int .i64 6, .int .i64 0, .string (⟨#[]⟩ : ByteArray), .slice none 0 0] (0, 0) _ rfl (by (with_reducible repeat (first | refine blk_drewN ?_ _ | refine blk_drew ?_ | refine blk_alloc ?_ _)); refine blk_put (cs := #[.int .i64 6, .int .i64 0, .string (⟨#[]⟩ : ByteArray), .slice none 0 0]) ?_ 3 _ rfl; (with_reducible repeat (first | refine blk_drewN ?_ _ | refine blk_drew ?_ | refine blk_alloc ?_ _)); refine blk_put (cs := #[.int .i64 6, .int .i64 0, .string (⟨#[]⟩ : ByteArray), .slice none 0 0]) ?_ 2 _ rfl; (with_reducible repeat (first | refine blk_drewN ?_ _ | refine blk_drew ?_ | refine blk_alloc ?_ _)); refine blk_put (cs := #[.int .i64 6, .int .i64 0, .string (⟨#[]⟩ : ByteArray), .slice none 0 0]) ?_ 1 _ rfl; (with_reducible repeat (first | refine blk_drewN ?_ _ | refine blk_drew ?_ | refine blk_alloc ?_ _)); refine blk_put (cs := #[.int .i64 0, .int .i64 0, .string (⟨#[]⟩ : ByteArray), .slice none 0 0]) ?_ 0 _ rfl; exact bk BK698.out) Try.underlying55 rfl (by kernel_rfl)) rfl ?_
    exact ⟨_, by first | rfl | (simp [errW_none, errW_some] <;> rfl) | (simp [*, errW_none, errW_some] <;> rfl), by first | exact Kd.R_nil _ _ _ _ _ | exact Kd.N_nil _ _ _ _ _ | exact Kd.V_nil _ _ _ _ _ | exact Kd.Q_nil _ _ _ _ _ | exact Kd.S_nil _ _ _ _ _, by exact sw105 HI0.out, by exact bw HB.out, by exact kw HK.out⟩
   ·
    rw [if_neg c7] at H
    have c7b0 : (x6_2 == 0) = false := beq_eq_false_iff_ne.mpr c7
    have c7b1 : (x6_2 != 0) = true := bne_iff_ne.mpr c7
    by_cases c10 : x6_2 = 1
    ·
     rw [if_pos c10] at H
     have c10b0 : (x6_2 == 1) = true := beq_iff_eq.mpr c10
     have c10b1 : (x6_2 != 1) = false := bne_eq_false_iff_eq.mpr c10
     clear c10
     obtain ⟨y701, hy701⟩ : ∃ y_ : List ByteArray, y_ = (([(⟨#[108, 101, 118, 101, 108]⟩ : ByteArray), (⟨#[97, 103, 101]⟩ : ByteArray)] : List ByteArray)) := ⟨_, rfl⟩
     replace H : ((spec_l20Rd_pick.f kj2 s0_0 x1001_2 2).bind fun bt704 => (if 0 ≤ bt704.1 then (if bt704.1 < (y701.length : Int) then (some (7, 0, rdOf ByteArray.empty y701 bt704.1, ([] : List (S55)), bt704.2)) else (none)) else (none))) = some (r1, r2, r3, r4, r5) := by first | (rw [hy701]; with_reducible exact H) | (have H2_ := (Option.bind_some _ _).symm.trans H; rw [hy701]; with_reducible exact H2_) | (have H2_ := (Option.bind_some _ _).symm.trans H; with_reducible exact H2_) | with_reducible exact H | (rw [hy701]; exact H) | exact H
     have Ny701 := Aside0.mk hy701
     clear hy701
     replace H := Option.bind_eq_some_iff.mp H
     obtain ⟨⟨t704, t705⟩, A110, H⟩ := H
     replace H : (if 0 ≤ t704 then (if t704 < (y701.length : Int) then (some (7, 0, rdOf ByteArray.empty y701 t704, ([] : List (S55)), t705)) else (none)) else (none)) = some (r1, r2, r3, r4, r5) := H
     have A11 := Aside0.mk A110
     clear A110
     by_cases c12 : 0 ≤ t704
     ·
      rw [if_pos c12] at H
      have c12b0 : decide (0 ≤ t704) = true := decide_eq_true c12
      clear c12
      by_cases c13 : t704 < (y701.length : Int)
      ·
       rw [if_pos c13] at H
       have c13b0 : decide (t704 < (y701.length : Int)) = true := decide_eq_true c13
       clear c13
       simp only [Option.some.injEq, Prod.mk.injEq] at H
       obtain ⟨rfl, rfl, rfl, rfl, rfl⟩ := H
       go_wp2_with (first | ((with_reducible refine gate_dst (N := 12) rfl ?_); refine Kd.R_lit Kd.string _ 9 ?hg (N := 12) ?hd (xs := ([(⟨#[108, 101, 118, 101, 108]⟩ : ByteArray), (⟨#[97, 103, 101]⟩ : ByteArray)] : List ByteArray)) (inner := [.string (⟨#[108, 101, 118, 101, 108]⟩ : ByteArray), .string (⟨#[97, 103, 101]⟩ : ByteArray)]) (ok := fun _ => True) (okp := fun _ => True) ?hr ?hp (fun _ hk => hk) trivial (Below.refl _ _) (Nat.le_refl _) (by simp) ?_; (case hd => rfl); (case hg => rfl); (case hr => first | (go_simp; done) | (go_simp; rfl)); (case hp => exact (Reps.one (show Kd.M Kd.string _ _ _ (⟨#[108, 101, 118, 101, 108]⟩ : ByteArray) [.string (⟨#[108, 101, 118, 101, 108]⟩ : ByteArray)] from rfl) (Reps.one (show Kd.M Kd.string _ _ _ (⟨#[97, 103, 101]⟩ : ByteArray) [.string (⟨#[97, 103, 101]⟩ : ByteArray)] from rfl) (Reps.none _ _)))); intro v702 w14 ho15 hb hg_ hnew_; clear hg_ hnew_; (first | rw [← Ny701.out] at ho15 | (simp only [Int.reduceToNat] at ho15; rw [← Ny701.out] at ho15)); have n0_ := Aside0.mk (Kd.R_lower (Kd.R_newM (M := fun k_ => (w.heap.size ≤ k_)) ho15 (keep_size (w := w) (g := g) (row := none) (by exact kw HK.out)) (fun k_ h_ => h_)) (keep_size (w := w) (g := g) (row := none) (by exact kw HK.out))); have n1_ := Aside0.mk (blk_below (g := gb698) (o := .cells #[.int .i64 0, .int .i64 0, .string (⟨#[]⟩ : ByteArray), .slice none 0 0] 55 (0, 0)) (by exact bk BK698.out) hb); have n2_ := Aside0.mk (IsS105.below (by exact sw105 HI0.out) hb); have n3_ := Aside0.mk (KeepBut.trans (by exact kw HK.out) (KeepBut.of_below hb g none) (.inl rfl)); have n4_ := Aside0.mk (below_step (by exact bw HB.out) hb); clear BK698; clear HI0; clear HK; clear HB; have HO703 := n0_; have BK698 := n1_; have HI0 := n2_; have HK := n3_; have HB := n4_; clear n0_ n1_ n2_ n3_ n4_; clear hb ho15) | ((with_reducible refine gate_callee (f := 62) rfl ?_); refine gl (some 14) Try.func62 #[.pointer (some ⟨g, 0, none⟩), .int .i64 2] ?_; (with_reducible refine (spec_l20Rd_pick.calls kj2 g s0_0 x1001_2 2 t704 t705 w0 _ ?side1 ?side2 A11.out).mono ?_); (case side1 => exact sw105 HI0.out); (case side2 => exact bw HB.out); rintro e w16 ⟨rfl, hi, hb, hk⟩; refine ⟨_, rfl, ?_⟩; have n0_ := Aside0.mk (KeepBut.blk hk (g' := gb698) (o := .cells #[.int .i64 0, .int .i64 0, .string (⟨#[]⟩ : ByteArray), .slice none 0 0] 55 (0, 0)) (by exact bk BK698.out) NB698_0.out (by simp)); have n1_ := Aside0.mk (Kd.R_mono (Kd.R_keep (IsS105.apart (show IsS105 w0 _ g s0_0 x1001_2 from by exact sw105 HI0.out) (by exact Kd.xR HO703.out) (by decide)) hk (fun _ h => h.2)) (fun _ h => h.1)); have n2_ := Aside0.mk (KeepBut.trans (by exact kw HK.out) hk (.inl rfl)); have n3_ := Aside0.mk (hb); have n4_ := Aside0.mk (hi); clear BK698; clear HO703; clear HK; clear HB; clear HI0; have BK698 := n0_; have HO703 := n1_; have HK := n2_; have HB := n3_; have HI0 := n4_; clear n0_ n1_ n2_ n3_ n4_; (try clear hb); (try clear hb2); (try clear hk); (try clear hi); obtain ⟨Ao17, co17, eo17⟩ := Kd.R_slice HO703.out; subst eo17; have p706 : 0 ≤ (t704 : Int) := of_decide_eq_true (by first | (with_reducible assumption) | assumption); have q706 : t704 < (y701.length : Int) := of_decide_eq_true (by first | (with_reducible assumption) | assumption); obtain ⟨ad706, e706, hx706_0⟩ := Kd.at_string (Kd.R_reads' HO703.out).2.2 t704 p706 q706; cases e706; replace p706 := eq_true p706; replace q706 := eq_true q706; have hnb18 := NB698_0.out; have hnc18 := NB0_698.out; have hcz19_0 : w16.cell? ⟨gb698, 0, none⟩ = some (.int .i64 0) := (blk_cell BK698.out 0).trans rfl; have hcz19_1 : w16.cell? ⟨gb698, 1, none⟩ = some (.int .i64 0) := (blk_cell BK698.out 1).trans rfl; have hcz19_2 : w16.cell? ⟨gb698, 2, none⟩ = some (.string (⟨#[]⟩ : ByteArray)) := (blk_cell BK698.out 2).trans rfl; have hcz19_3 : w16.cell? ⟨gb698, 3, none⟩ = some (.slice none 0 0) := (blk_cell BK698.out 3).trans rfl; have hfz19_0 := blk_frozen BK698.out 0; have hfz19_1 := blk_frozen BK698.out 1; have hfz19_2 := blk_frozen BK698.out 2; have hfz19_3 := blk_frozen BK698.out 3))
       refine bodyPost_ret (results_cell_row rfl _ _ gb698 55 #[.int .i64 7, .int .i64 0, .string (rdOf ByteArray.empty y701 t704), .slice none 0 0] (0, 0) _ rfl (by (with_reducible repeat (first | refine blk_drewN ?_ _ | refine blk_drew ?_ | refine blk_alloc ?_ _)); refine blk_put (cs := #[.int .i64 7, .int .i64 0, .string (rdOf ByteArray.empty y701 t704), .slice none 0 0]) ?_ 3 _ rfl; (with_reducible repeat (first | refine blk_drewN ?_ _ | refine blk_drew ?_ | refine blk_alloc ?_ _)); refine blk_put (cs := #[.int .i64 7, .int .i64 0, .string (⟨#[]⟩ : ByteArray), .slice none 0 0]) ?_ 2 _ rfl; (with_reducible repeat (first | refine blk_drewN ?_ _ | refine blk_drew ?_ | refine blk_alloc ?_ _)); refine blk_put (cs := #[.int .i64 7, .int .i64 0, .string (⟨#[]⟩ : ByteArray), .slice none 0 0]) ?_ 1 _ rfl; (with_reducible repeat (first | refine blk_drewN ?_ _ | refine blk_drew ?_ | refine blk_alloc ?_ _)); refine blk_put (cs := #[.int .i64 0, .int .i64 0, .string (⟨#[]⟩ : ByteArray), .slice none 0 0]) ?_ 0 _ rfl; exact bk BK698.out) Try.underlying55 rfl (by kernel_rfl)) rfl ?_
       exact ⟨_, by first | rfl | (simp [errW_none, errW_some] <;> rfl) | (simp [*, errW_none, errW_some] <;> rfl), by first | exact Kd.R_nil _ _ _ _ _ | exact Kd.N_nil _ _ _ _ _ | exact Kd.V_nil _ _ _ _ _ | exact Kd.Q_nil _ _ _ _ _ | exact Kd.S_nil _ _ _ _ _, by exact sw105 HI0.out, by exact bw HB.out, by exact kw HK.out⟩
      ·
       rw [if_neg c13] at H
       exact absurd H (by simp)
     ·
      rw [if_neg c12] at H
      exact absurd H (by simp)
    ·
     rw [if_neg c10] at H
     have c10b0 : (x6_2 == 1) = false := beq_eq_false_iff_ne.mpr c10
     have c10b1 : (x6_2 != 1) = true := bne_iff_ne.mpr c10
     by_cases c20 : x6_2 = 2
     ·
      rw [if_pos c20] at H
      have c20b0 : (x6_2 == 2) = true := beq_iff_eq.mpr c20
      have c20b1 : (x6_2 != 2) = false := bne_eq_false_iff_eq.mpr c20
      clear c20
      by_cases c21 : a1 > 0
      ·
       rw [if_pos c21] at H
       have c21b0 : decide (0 < a1) = true := decide_eq_true c21
       clear c21
       obtain ⟨y707, hy707⟩ : ∃ y_ : List ByteArray, y_ = (([(⟨#[108, 101, 118, 101, 108]⟩ : ByteArray), (⟨#[97, 103, 101]⟩ : ByteArray)] : List ByteArray)) := ⟨_, rfl⟩
       replace H : ((spec_l20Rd_pick.f kj2 s0_0 x1001_2 2).bind fun bt710 => (if 0 ≤ bt710.1 then (if bt710.1 < (y707.length : Int) then ((spec_l20Thing.f kj2 s0_0 bt710.2 (wrap64 (a1 - 1))).bind fun bt713 => (some (8, 0, rdOf ByteArray.empty y707 bt710.1, (([(⟨bt713.1, bt713.2.1, bt713.2.2.1, bt713.2.2.2.1⟩ : S55)] : List (S55))), bt713.2.2.2.2))) else (none)) else (none))) = some (r1, r2, r3, r4, r5) := by first | (rw [hy707]; with_reducible exact H) | (have H2_ := (Option.bind_some _ _).symm.trans H; rw [hy707]; with_reducible exact H2_) | (have H2_ := (Option.bind_some _ _).symm.trans H; with_reducible exact H2_) | with_reducible exact H | (rw [hy707]; exact H) | exact H
       have Ny707 := Aside0.mk hy707
       clear hy707
       replace H := Option.bind_eq_some_iff.mp H
       obtain ⟨⟨t710, t711⟩, A220, H⟩ := H
       replace H : (if 0 ≤ t710 then (if t710 < (y707.length : Int) then ((spec_l20Thing.f kj2 s0_0 t711 (wrap64 (a1 - 1))).bind fun bt713 => (some (8, 0, rdOf ByteArray.empty y707 t710, (([(⟨bt713.1, bt713.2.1, bt713.2.2.1, bt713.2.2.2.1⟩ : S55)] : List (S55))), bt713.2.2.2.2))) else (none)) else (none)) = some (r1, r2, r3, r4, r5) := H
       have A22 := Aside0.mk A220
       clear A220
       by_cases c23 : 0 ≤ t710
       ·
        rw [if_pos c23] at H
        have c23b0 : decide (0 ≤ t710) = true := decide_eq_true c23
        clear c23
        by_cases c24 : t710 < (y707.length : Int)
        ·
         rw [if_pos c24] at H
         have c24b0 : decide (t710 < (y707.length : Int)) = true := decide_eq_true c24
         clear c24
         replace H := Option.bind_eq_some_iff.mp H
         obtain ⟨⟨t713, t714, t715, t716, t719⟩, A250, H⟩ := H
         replace H : (some (8, 0, rdOf ByteArray.empty y707 t710, (([(⟨t713, t714, t715, t716⟩ : S55)] : List (S55))), t719)) = some (r1, r2, r3, r4, r5) := H
         have A25 := Aside0.mk A250
         clear A250
         obtain ⟨y720, hy720⟩ : ∃ y_ : List (S55), y_ = (([(⟨t713, t714, t715, t716⟩ : S55)] : List (S55))) := ⟨_, rfl⟩
         replace H : (some (8, 0, rdOf ByteArray.empty y707 t710, y720, t719)) = some (r1, r2, r3, r4, r5) := by first | (rw [hy720]; with_reducible exact H) | (have H2_ := (Option.bind_some _ _).symm.trans H; rw [hy720]; with_reducible exact H2_) | (have H2_ := (Option.bind_some _ _).symm.trans H; with_reducible exact H2_) | with_reducible exact H | (rw [hy720]; exact H) | exact H
         have Ny720 := Aside0.mk hy720
         clear hy720
         simp only [Option.some.injEq, Prod.mk.injEq] at H
         obtain ⟨rfl, rfl, rfl, rfl, rfl⟩ := H
         try go_wp2
         have pi712 : (0 ≤ (t710 : Int)) = True := eq_true (of_decide_eq_true (by first | (with_reducible assumption) | assumption))
         have qi712 : (t710 < (y707.length : Int)) = True := eq_true (of_decide_eq_true (by first | (with_reducible assumption) | assumption))
         have n0_ := Aside0.mk (blk_drew BK698.out)
         have n1_ := Aside0.mk (IsS105.drew HI0.out)
         have n2_ := Aside0.mk (keep_drew HK.out)
         have n3_ := Aside0.mk (below_drew1 HB.out)
         clear BK698
         clear HI0
         clear HK
         clear HB
         have BK698 := n0_
         have HI0 := n1_
         have HK := n2_
         have HB := n3_
         clear n0_ n1_ n2_ n3_
         refine start_ (n := 12) (S := fun w' => True) (ds := []) spec_l20Number.m0 (by kernel_rfl) rfl rfl trivial (fun hHeld => ?_); refine with_tabW spec_l20Number.tab8 spec_l20Number.bits8 (fun HT_ HW_ => ?_)
         generalize wc.drew = w26 at BK698 HI0 HK HB hHeld ⊢
         refine pure_ (i := 1) (N := some 23) (v := ?_) (a' := ?_) spec_l20Number.m1 rfl rfl (any_of HT_.out (by kernel_rfl)) (fun _ _ _ h => h) (Or.inl ⟨by rfl, ?_⟩) ?_ ?_
         rotate_left
         ·
          intro w'
          go_simp
          with_reducible rfl
         rotate_left
         ·
          simp only [Act.put, List.setIfInBounds_toArray, List.set_cons_zero, List.set_cons_succ, i64_w, i32_w]
          rfl
         refine pure_ (i := 5) (N := some 27) (v := ?_) (a' := ?_) spec_l20Number.m2 rfl rfl (any_of HT_.out (by kernel_rfl)) (fun _ _ _ h => h) (Or.inl ⟨by rfl, ?_⟩) ?_ ?_
         rotate_left
         ·
          intro w'
          go_simp
          with_reducible rfl
         rotate_left
         ·
          simp only [Act.put, List.setIfInBounds_toArray, List.set_cons_zero, List.set_cons_succ, i64_w, i32_w]
          rfl
         refine pure_ (i := 6) (N := some 28) (v := ?_) (a' := ?_) spec_l20Number.m3 rfl rfl (any_of HT_.out (by kernel_rfl)) (fun _ _ _ h => h) (Or.inl ⟨by rfl, ?_⟩) ?_ ?_
         rotate_left
         ·
          intro w'
          go_simp
          with_reducible rfl
         rotate_left
         ·
          simp only [Act.put, List.setIfInBounds_toArray, List.set_cons_zero, List.set_cons_succ, i64_w, i32_w]
          rfl
         refine inv_at [0, 2, 3, 4, 7, 8, 9, 10, 11] (fun a0_ b a w' => ∃ (v708 : Value) (adz_v708 : Addr) (v717 : Value) (v721 : Value) (m3_ : Value) (m8_ : Value) (m10_ : Value), a = putSel a0_ b [(0, 22, v708), (2, 24, .int .i64 t710), (3, 25, m3_), (4, 26, .string (rdOf ByteArray.empty y707 t710)), (7, 29, .int .i64 (wrap64 (a1 - 1))), (8, 30, m8_), (9, 31, v721), (10, 32, m10_)] ∧ (b 11 = false → w'.heap[gb698]? = some (.cells #[.int .i64 0, .int .i64 0, .string (⟨#[]⟩ : ByteArray), .slice none 0 0] 55 (0, 0))) ∧ (b 2 = false → IsS105 w0 w' g s0_0 x1001_2) ∧ (KeepBut w w' g none) ∧ (Below w0.heap.size w0 w') ∧ (b 0 = true → Kd.R Kd.string 9 w' w.heap.size (fun k_ => (w.heap.size ≤ k_)) v708 y707) ∧ (b 0 = true → ∃ c_, (v708 : Value) = .slice (some adz_v708) y707.length c_) ∧ (b 2 = true → b 8 = false → IsS105 w0 w' g s0_0 t711) ∧ (b 8 = true → Kd.V k55 55 w' w.heap.size (fun k_ => (w.heap.size ≤ k_) ∧ k_ ≠ g ∧ k_ ≠ gb698) v717 t716) ∧ (b 8 = true → IsS105 w0 w' g s0_0 t719) ∧ (b 9 = true → Kd.N k55 55 w' w.heap.size (fun k_ => (w.heap.size ≤ k_) ∧ k_ ≠ g ∧ k_ ≠ gb698) v721 y720) ∧ (b 11 = true → w'.heap[gb698]? = some (.cells #[.int .i64 8, .int .i64 0, .string (rdOf ByteArray.empty y707 t710), v721] 55 (0, 0))) ∧ (b 3 = true → (m3_ : Value) = .pointer (some (adz_v708.add (t710).toNat))) ∧ (b 8 = true → (m8_ : Value) = .agg #[.int .i64 t713, .int .i64 t714, .string t715, v717]) ∧ (b 10 = true → (m10_ : Value) = .agg #[.int .i64 8, .int .i64 0, .string (rdOf ByteArray.empty y707 t710), v721])) HT_.out HW_.out (by kernel_rfl) (by kernel_rfl) ?_ ?_ ?_
         ·
          exact ⟨.bool false, ⟨0, 0, none⟩, .bool false, .bool false, .bool false, .bool false, .bool false, by simp only [putSel, Bool.false_eq_true, if_false], fun _ => BK698.out, fun _ => HI0.out, HK.out, HB.out, fun h_ => absurd h_ (by decide), fun h_ => absurd h_ (by decide), fun h_ => absurd h_ (by decide), fun h_ => absurd h_ (by decide), fun h_ => absurd h_ (by decide), fun h_ => absurd h_ (by decide), fun h_ => absurd h_ (by decide), fun h_ => absurd h_ (by decide), fun h_ => absurd h_ (by decide), fun h_ => absurd h_ (by decide)⟩
         ·
          skip
          clear BK698 HB HI0 HK
          refine steps_cons ?_ ?_
          ·
           rintro b a w' ⟨v708, adz_v708, v717, v721, m3_, m8_, m10_, ha, Q_BK698, Q_HI0, Q_HK, Q_HB, Q_HO709, Q_HA_HO709, Q_HI0_e2, Q_HO718, Q_HI0_e8, Q_HO722, Q_BK698_e11, Q_X3_, Q_X8_, Q_X10_⟩ hb_ hon hoff
           refine ⟨_, rfl, fun K hK => ?_⟩
           replace ha := Aside0.mk ha
           have BK698 := Aside0.mk (Q_BK698 (hoff 11 (by kernel_rfl)))
           have HK := Aside0.mk Q_HK
           have HB := Aside0.mk Q_HB
           refine Kd.R_lit_step Kd.string _ 9 ?hg (N := 22) ?hd (xs := ([(⟨#[108, 101, 118, 101, 108]⟩ : ByteArray), (⟨#[97, 103, 101]⟩ : ByteArray)] : List ByteArray)) (inner := [.string (⟨#[108, 101, 118, 101, 108]⟩ : ByteArray), .string (⟨#[97, 103, 101]⟩ : ByteArray)]) (ok := fun _ => True) (okp := fun _ => True) ?hr ?hp (fun _ hk => hk) trivial (Below.refl _ _) (Nat.le_refl _) (by simp) ?_; (case hd => rfl); (case hg => rfl); (case hr => first | (go_simp; done) | (go_simp; rfl)); (case hp => exact (Reps.one (show Kd.M Kd.string _ _ _ (⟨#[108, 101, 118, 101, 108]⟩ : ByteArray) [.string (⟨#[108, 101, 118, 101, 108]⟩ : ByteArray)] from rfl) (Reps.one (show Kd.M Kd.string _ _ _ (⟨#[97, 103, 101]⟩ : ByteArray) [.string (⟨#[97, 103, 101]⟩ : ByteArray)] from rfl) (Reps.none _ _))))
           intro v708 w27 ho28 hb hg_ hnew_
           clear hg_ hnew_
           (first | rw [← Ny707.out] at ho28 | (simp only [Int.reduceToNat] at ho28; rw [← Ny707.out] at ho28))
           have n0_ := Aside0.mk (Kd.R_lower (Kd.R_newM (M := fun k_ => (w.heap.size ≤ k_)) ho28 (keep_size (w := w) (g := g) (row := none) (by exact kw HK.out)) (fun k_ h_ => h_)) (keep_size (w := w) (g := g) (row := none) (by exact kw HK.out)))
           have n1_ := Aside0.mk (blk_below (g := gb698) (o := .cells #[.int .i64 0, .int .i64 0, .string (⟨#[]⟩ : ByteArray), .slice none 0 0] 55 (0, 0)) (by exact bk BK698.out) hb)
           have n3_ := Aside0.mk (KeepBut.trans (by exact kw HK.out) (KeepBut.of_below hb g none) (.inl rfl))
           have n4_ := Aside0.mk (below_step (by exact bw HB.out) hb)
           have z_HI0 := fun (h0_ : b 2 = false) => (show IsS105 w0 w27 g s0_0 x1001_2 from by first | exact (IsS105.below (by repeat (first | (with_reducible first | exact (Q_HI0 h0_) | apply IsS105.alloc | apply IsS105.drewN | apply IsS105.drew | apply IsS105.set_1 | refine IsS105.far ?_ NB0_698.out _) | exact (Q_HI0 h0_))) hb))
           have z_HI0_e2 := fun (h0_ : b 2 = true) (h1_ : b 8 = false) => (show IsS105 w0 w27 g s0_0 t711 from by first | exact (IsS105.below (by repeat (first | (with_reducible first | exact (Q_HI0_e2 h0_ h1_) | apply IsS105.alloc | apply IsS105.drewN | apply IsS105.drew | apply IsS105.set_1 | refine IsS105.far ?_ NB0_698.out _) | exact (Q_HI0_e2 h0_ h1_))) hb))
           have z_HO718 := fun (h0_ : b 8 = true) => (show Kd.V k55 55 w27 w.heap.size (fun k_ => (w.heap.size ≤ k_) ∧ k_ ≠ g ∧ k_ ≠ gb698) v717 t716 from by first | exact (Kd.V_elder' (by (with_reducible repeat (first | apply Kd.V_alloc | apply Kd.V_drewN | apply Kd.V_drew)); exact (Q_HO718 h0_)) (Kd.R_base ho28) hb) | exact Kd.V_mono (Kd.V_elder' (by (with_reducible repeat (first | apply Kd.V_alloc | apply Kd.V_drewN | apply Kd.V_drew)); exact (Q_HO718 h0_)) (Kd.R_base ho28) hb) (fun _ h_ => by first | trivial | exact h_ | exact h_.1))
           have z_HI0_e8 := fun (h0_ : b 8 = true) => (show IsS105 w0 w27 g s0_0 t719 from by first | exact (IsS105.below (by repeat (first | (with_reducible first | exact (Q_HI0_e8 h0_) | apply IsS105.alloc | apply IsS105.drewN | apply IsS105.drew | apply IsS105.set_1 | refine IsS105.far ?_ NB0_698.out _) | exact (Q_HI0_e8 h0_))) hb))
           have z_HO722 := fun (h0_ : b 9 = true) => (show Kd.N k55 55 w27 w.heap.size (fun k_ => (w.heap.size ≤ k_) ∧ k_ ≠ g ∧ k_ ≠ gb698) v721 y720 from by first | exact (Kd.N_elder' (by (with_reducible repeat (first | apply Kd.N_alloc | apply Kd.N_drewN | apply Kd.N_drew)); exact (Q_HO722 h0_)) (Kd.R_base ho28) hb) | exact Kd.N_mono (Kd.N_elder' (by (with_reducible repeat (first | apply Kd.N_alloc | apply Kd.N_drewN | apply Kd.N_drew)); exact (Q_HO722 h0_)) (Kd.R_base ho28) hb) (fun _ h_ => by first | trivial | exact h_ | exact h_.1))
           clear BK698
           clear HK
           clear HB
           have HO709 := n0_
           have BK698 := n1_
           have HK := n3_
           have HB := n4_
           clear n0_ n1_ n3_ n4_
           clear hb ho28
           obtain ⟨Ao29, co29, eo29⟩ := Kd.R_slice HO709.out
           subst eo29
           obtain ⟨ado29, fo29, _⟩ := Kd.at_string (Kd.R_reads' HO709.out).2.2 0 (by decide) (by rw [Ny707.out]; simp)
           cases fo29
           refine hK.out _ _ ⟨.slice (some ado29) y707.length co29, ado29, v717, v721, m3_, m8_, m10_, (by rw [ha.out]; exact putSel_upk 0 hb_ rfl rfl rfl), fun _ => (by exact bk BK698.out), z_HI0, (by exact kw HK.out), (by exact bw HB.out), fun _ => (by (with_reducible repeat (first | apply Kd.R_alloc | apply Kd.R_drewN | apply Kd.R_drew)); exact Kd.R_mono HO709.out (fun _ hk => hk.1)), fun _ => ⟨_, rfl⟩, z_HI0_e2, z_HO718, z_HI0_e8, z_HO722, fun h0_ => absurd ((hoff 11 (by kernel_rfl)).symm.trans h0_) (by decide), fun h0_ => absurd ((hoff 3 (by kernel_rfl)).symm.trans h0_) (by decide), Q_X8_, fun h0_ => absurd ((hoff 10 (by kernel_rfl)).symm.trans h0_) (by decide)⟩
          refine steps_cons ?_ ?_
          ·
           rintro b a w' ⟨v708, adz_v708, v717, v721, m3_, m8_, m10_, ha, Q_BK698, Q_HI0, Q_HK, Q_HB, Q_HO709, Q_HA_HO709, Q_HI0_e2, Q_HO718, Q_HI0_e8, Q_HO722, Q_BK698_e11, Q_X3_, Q_X8_, Q_X10_⟩ hb_ hon hoff
           refine ⟨_, rfl, fun K hK => ?_⟩
           have e23 : a.tmps[23]? = some (.pointer (some ⟨g, 0, none⟩)) := by rw [ha]; exact (putSel_off rfl).trans rfl
           replace ha := Aside0.mk ha
           have BK698 := Aside0.mk (Q_BK698 (hoff 11 (by kernel_rfl)))
           have HI0 := Aside0.mk (Q_HI0 hb_)
           have HK := Aside0.mk Q_HK
           have HB := Aside0.mk Q_HB
           refine goes_ Try.func62 (by kernel_rfl) rfl #[.pointer (some ⟨g, 0, none⟩), .int .i64 2] (by rfl) rfl rfl (by first | (simp only [List.map_toArray, List.map_cons, List.map_nil, Act.eval, Array.getD_eq_getD_getElem?, Option.getD_some, e23]; done) | (simp only [List.map_toArray, List.map_cons, List.map_nil, Act.eval, Array.getD_eq_getD_getElem?, Option.getD_some, e23]; rfl)) ?_
           with_reducible refine (spec_l20Rd_pick.calls kj2 g s0_0 x1001_2 2 t710 t711 w0 _ ?side1 ?side2 A22.out).mono ?_
           (case side1 => exact sw105 HI0.out)
           (case side2 => exact bw HB.out)
           rintro e w27 ⟨rfl, hi, hb, hk⟩
           refine ⟨_, rfl, ?_⟩
           have n0_ := Aside0.mk (KeepBut.blk hk (g' := gb698) (o := .cells #[.int .i64 0, .int .i64 0, .string (⟨#[]⟩ : ByteArray), .slice none 0 0] 55 (0, 0)) (by exact bk BK698.out) NB698_0.out (by simp))
           have n1_ := Aside0.mk (KeepBut.trans (by exact kw HK.out) hk (.inl rfl))
           have n2_ := Aside0.mk (hb)
           have n3_ := Aside0.mk (hi)
           have z_HO709 := fun (h0_ : b 0 = true) => (show Kd.R Kd.string 9 w27 w.heap.size (fun k_ => (w.heap.size ≤ k_)) v708 y707 from by first | exact (Kd.R_mono (Kd.R_keep (IsS105.apart (show IsS105 w0 _ g s0_0 x1001_2 from by exact sw105 HI0.out) (by (with_reducible repeat (first | apply Kd.R_alloc | apply Kd.R_drewN | apply Kd.R_drew)); exact (Q_HO709 h0_)) (by decide)) hk (fun _ h => h.2)) (fun _ h => h.1)) | exact Kd.R_mono (Kd.R_mono (Kd.R_keep (IsS105.apart (show IsS105 w0 _ g s0_0 x1001_2 from by exact sw105 HI0.out) (by (with_reducible repeat (first | apply Kd.R_alloc | apply Kd.R_drewN | apply Kd.R_drew)); exact (Q_HO709 h0_)) (by decide)) hk (fun _ h => h.2)) (fun _ h => h.1)) (fun _ h_ => by first | trivial | exact h_ | exact h_.1))
           clear BK698
           clear HK
           clear HB
           clear HI0
           have BK698 := n0_
           have HK := n1_
           have HB := n2_
           have HI0 := n3_
           clear n0_ n1_ n2_ n3_
           (try clear hb)
           (try clear hb2)
           (try clear hk)
           (try clear hi)
           refine hK.out _ _ ⟨v708, adz_v708, v717, v721, m3_, m8_, m10_, (by rw [ha.out]; exact putSel_upk 1 hb_ rfl rfl rfl), fun _ => (by exact bk BK698.out), fun h0_ => absurd ((up_self b 2).symm.trans h0_) (by decide), (by exact kw HK.out), (by exact bw HB.out), z_HO709, Q_HA_HO709, fun _ _ => (by exact sw105 HI0.out), fun h0_ => absurd ((hoff 8 (by kernel_rfl)).symm.trans h0_) (by decide), fun h0_ => absurd ((hoff 8 (by kernel_rfl)).symm.trans h0_) (by decide), fun h0_ => absurd ((hoff 9 (by kernel_rfl)).symm.trans h0_) (by decide), fun h0_ => absurd ((hoff 11 (by kernel_rfl)).symm.trans h0_) (by decide), fun h0_ => absurd ((hoff 3 (by kernel_rfl)).symm.trans h0_) (by decide), fun h0_ => absurd ((hoff 8 (by kernel_rfl)).symm.trans h0_) (by decide), fun h0_ => absurd ((hoff 10 (by kernel_rfl)).symm.trans h0_) (by decide)⟩
          refine steps_cons ?_ ?_
          ·
           rintro b a w' ⟨v708, adz_v708, v717, v721, m3_, m8_, m10_, ha, Q_BK698, Q_HI0, Q_HK, Q_HB, Q_HO709, Q_HA_HO709, Q_HI0_e2, Q_HO718, Q_HI0_e8, Q_HO722, Q_BK698_e11, Q_X3_, Q_X8_, Q_X10_⟩ hb_ hon hoff
           refine ⟨_, rfl, fun K hK => ?_⟩
           have e22 : a.tmps[22]? = some (v708) := by rw [ha]; exact putSel_on (e := (0, 22, v708)) 0 rfl rfl (hon 0 (by kernel_rfl)) rfl
           have e24 : a.tmps[24]? = some (.int .i64 t710) := by rw [ha]; exact putSel_on (e := (2, 24, .int .i64 t710)) 1 rfl rfl (hon 2 (by kernel_rfl)) rfl
           replace ha := Aside0.mk ha
           have BK698 := Aside0.mk (Q_BK698 (hoff 11 (by kernel_rfl)))
           have HK := Aside0.mk Q_HK
           have HB := Aside0.mk Q_HB
           have HO709 := Aside0.mk (Q_HO709 (hon 0 (by kernel_rfl)))
           have HA_HO709 := Aside0.mk (Q_HA_HO709 (hon 0 (by kernel_rfl)))
           obtain ⟨c_, hv_⟩ := HA_HO709.out
           rw [hv_] at e22
           refine value_ (w1 := w') (v := .pointer (some (adz_v708.add (t710).toNat))) (by rfl) rfl ?_ ?_
           ·
            go_simp
            (try simp only [i64_w])
            try rfl
           refine hK.out _ _ ⟨v708, adz_v708, v717, v721, (.pointer (some (adz_v708.add (t710).toNat))), m8_, m10_, (by rw [ha.out]; exact putSel_upk 2 hb_ rfl rfl rfl), Q_BK698, fun h0_ => absurd ((hon 2 (by kernel_rfl)).symm.trans h0_) (by decide), Q_HK, Q_HB, Q_HO709, Q_HA_HO709, Q_HI0_e2, Q_HO718, Q_HI0_e8, Q_HO722, fun h0_ => absurd ((hoff 11 (by kernel_rfl)).symm.trans h0_) (by decide), fun _ => rfl, Q_X8_, fun h0_ => absurd ((hoff 10 (by kernel_rfl)).symm.trans h0_) (by decide)⟩
          refine steps_cons ?_ ?_
          ·
           rintro b a w' ⟨v708, adz_v708, v717, v721, m3_, m8_, m10_, ha, Q_BK698, Q_HI0, Q_HK, Q_HB, Q_HO709, Q_HA_HO709, Q_HI0_e2, Q_HO718, Q_HI0_e8, Q_HO722, Q_BK698_e11, Q_X3_, Q_X8_, Q_X10_⟩ hb_ hon hoff
           refine ⟨_, rfl, fun K hK => ?_⟩
           have e25 : a.tmps[25]? = some (m3_) := by rw [ha]; exact putSel_on (e := (3, 25, m3_)) 2 rfl rfl (hon 3 (by kernel_rfl)) rfl
           rw [Q_X3_ (hon 3 (by kernel_rfl))] at e25
           replace ha := Aside0.mk ha
           have BK698 := Aside0.mk (Q_BK698 (hoff 11 (by kernel_rfl)))
           have HK := Aside0.mk Q_HK
           have HB := Aside0.mk Q_HB
           have HO709 := Aside0.mk (Q_HO709 (hon 0 (by kernel_rfl)))
           have HA_HO709 := Aside0.mk (Q_HA_HO709 (hon 0 (by kernel_rfl)))
           obtain ⟨c_, hv_⟩ := HA_HO709.out
           have hF_ := HO709.out
           rw [hv_] at hF_
           obtain ⟨ad_, ea_, hx_⟩ := Kd.at_string (Kd.R_reads' hF_).2.2 t710 (of_eq_true pi712) (of_eq_true qi712)
           cases ea_
           refine value_ (w1 := w') (v := .string (rdOf ByteArray.empty y707 t710)) (by rfl) rfl ?_ ?_
           ·
            go_simp
            (try simp only [i64_w])
            try rfl
           refine hK.out _ _ ⟨v708, adz_v708, v717, v721, m3_, m8_, m10_, (by rw [ha.out]; exact putSel_upk 3 hb_ rfl rfl rfl), Q_BK698, fun h0_ => absurd ((hon 2 (by kernel_rfl)).symm.trans h0_) (by decide), Q_HK, Q_HB, Q_HO709, Q_HA_HO709, Q_HI0_e2, Q_HO718, Q_HI0_e8, Q_HO722, fun h0_ => absurd ((hoff 11 (by kernel_rfl)).symm.trans h0_) (by decide), Q_X3_, Q_X8_, fun h0_ => absurd ((hoff 10 (by kernel_rfl)).symm.trans h0_) (by decide)⟩
          refine steps_cons ?_ ?_
          ·
           rintro b a w' ⟨v708, adz_v708, v717, v721, m3_, m8_, m10_, ha, Q_BK698, Q_HI0, Q_HK, Q_HB, Q_HO709, Q_HA_HO709, Q_HI0_e2, Q_HO718, Q_HI0_e8, Q_HO722, Q_BK698_e11, Q_X3_, Q_X8_, Q_X10_⟩ hb_ hon hoff
           refine ⟨_, rfl, fun K hK => ?_⟩
           have e28 : a.tmps[28]? = some (.int .i64 a1) := by rw [ha]; exact (putSel_off rfl).trans rfl
           replace ha := Aside0.mk ha
           have BK698 := Aside0.mk (Q_BK698 (hoff 11 (by kernel_rfl)))
           have HK := Aside0.mk Q_HK
           have HB := Aside0.mk Q_HB
           refine value_ (w1 := w') (v := .int .i64 (wrap64 (a1 - 1))) (by rfl) rfl ?_ ?_
           ·
            go_simp
            (try simp only [i64_w])
            try rfl
           refine hK.out _ _ ⟨v708, adz_v708, v717, v721, m3_, m8_, m10_, (by rw [ha.out]; exact putSel_upk 4 hb_ rfl rfl rfl), Q_BK698, Q_HI0, Q_HK, Q_HB, Q_HO709, Q_HA_HO709, Q_HI0_e2, fun h0_ => absurd ((hoff 8 (by kernel_rfl)).symm.trans h0_) (by decide), fun h0_ => absurd ((hoff 8 (by kernel_rfl)).symm.trans h0_) (by decide), fun h0_ => absurd ((hoff 9 (by kernel_rfl)).symm.trans h0_) (by decide), fun h0_ => absurd ((hoff 11 (by kernel_rfl)).symm.trans h0_) (by decide), Q_X3_, fun h0_ => absurd ((hoff 8 (by kernel_rfl)).symm.trans h0_) (by decide), fun h0_ => absurd ((hoff 10 (by kernel_rfl)).symm.trans h0_) (by decide)⟩
          refine steps_cons ?_ ?_
          ·
           rintro b a w' ⟨v708, adz_v708, v717, v721, m3_, m8_, m10_, ha, Q_BK698, Q_HI0, Q_HK, Q_HB, Q_HO709, Q_HA_HO709, Q_HI0_e2, Q_HO718, Q_HI0_e8, Q_HO722, Q_BK698_e11, Q_X3_, Q_X8_, Q_X10_⟩ hb_ hon hoff
           refine ⟨_, rfl, fun K hK => ?_⟩
           have e27 : a.tmps[27]? = some (.pointer (some ⟨g, 0, none⟩)) := by rw [ha]; exact (putSel_off rfl).trans rfl
           have e29 : a.tmps[29]? = some (.int .i64 (wrap64 (a1 - 1))) := by rw [ha]; exact putSel_on (e := (7, 29, .int .i64 (wrap64 (a1 - 1)))) 4 rfl rfl (hon 7 (by kernel_rfl)) rfl
           replace ha := Aside0.mk ha
           have BK698 := Aside0.mk (Q_BK698 (hoff 11 (by kernel_rfl)))
           have HK := Aside0.mk Q_HK
           have HB := Aside0.mk Q_HB
           have HI0 := Aside0.mk (Q_HI0_e2 (hon 2 (by kernel_rfl)) hb_)
           refine goes_ Try.func87 (by kernel_rfl) rfl #[.pointer (some ⟨g, 0, none⟩), .int .i64 (wrap64 (a1 - 1))] (by rfl) rfl rfl (by first | (simp only [List.map_toArray, List.map_cons, List.map_nil, Act.eval, Array.getD_eq_getD_getElem?, Option.getD_some, e27, e29]; done) | (simp only [List.map_toArray, List.map_cons, List.map_nil, Act.eval, Array.getD_eq_getD_getElem?, Option.getD_some, e27, e29]; rfl)) ?_
           with_reducible refine (spec_l20Thing.calls kj2 g s0_0 t711 (wrap64 (a1 - 1)) t713 t714 t715 t716 t719 w0 _ ?side1 ?side2 A25.out).mono ?_
           (case side1 => exact sw105 HI0.out)
           (case side2 => exact bw HB.out)
           rintro e w29 ⟨v717, rfl, ho0, hi, hb, hk⟩
           refine ⟨_, rfl, ?_⟩
           have n0_ := Aside0.mk (KeepBut.blk hk (g' := gb698) (o := .cells #[.int .i64 0, .int .i64 0, .string (⟨#[]⟩ : ByteArray), .slice none 0 0] 55 (0, 0)) (by exact bk BK698.out) NB698_0.out (by simp))
           have n1_ := Aside0.mk (Kd.V_lower (Kd.V_mono (ok' := fun k_ => (w.heap.size ≤ k_) ∧ k_ ≠ gb698 ∧ k_ ≠ g) ho0 (fun k_ hk_ => ⟨(Nat.le_trans (keep_size (w := w) (g := g) (row := none) (by exact kw HK.out)) hk_), (Kd.freshB (g := gb698) (o := .cells #[.int .i64 0, .int .i64 0, .string (⟨#[]⟩ : ByteArray), .slice none 0 0] 55 (0, 0)) (by exact bk BK698.out) k_ hk_), (IsS105.fresh (by exact sw105 HI0.out) k_ hk_)⟩)) (keep_size (w := w) (g := g) (row := none) (by exact kw HK.out)))
           have n2_ := Aside0.mk (KeepBut.trans (by exact kw HK.out) hk (.inl rfl))
           have n3_ := Aside0.mk (hb)
           have n4_ := Aside0.mk (hi)
           have z_HO709 := fun (h0_ : b 0 = true) => (show Kd.R Kd.string 9 w29 w.heap.size (fun k_ => (w.heap.size ≤ k_)) v708 y707 from by first | exact (Kd.R_mono (Kd.R_keep (IsS105.apart (show IsS105 w0 _ g s0_0 t711 from by exact sw105 HI0.out) (by (with_reducible repeat (first | apply Kd.R_alloc | apply Kd.R_drewN | apply Kd.R_drew)); exact (Q_HO709 h0_)) (by decide)) hk (fun _ h => h.2)) (fun _ h => h.1)) | exact Kd.R_mono (Kd.R_mono (Kd.R_keep (IsS105.apart (show IsS105 w0 _ g s0_0 t711 from by exact sw105 HI0.out) (by (with_reducible repeat (first | apply Kd.R_alloc | apply Kd.R_drewN | apply Kd.R_drew)); exact (Q_HO709 h0_)) (by decide)) hk (fun _ h => h.2)) (fun _ h => h.1)) (fun _ h_ => by first | trivial | exact h_ | exact h_.1))
           clear BK698
           clear HK
           clear HB
           clear HI0
           have BK698 := n0_
           have HO718 := n1_
           have HK := n2_
           have HB := n3_
           have HI0 := n4_
           clear n0_ n1_ n2_ n3_ n4_
           (try clear hb)
           (try clear hb2)
           (try clear hk)
           (try clear hi)
           (try clear ho0)
           refine hK.out _ _ ⟨v708, adz_v708, v717, v721, m3_, (.agg #[.int .i64 t713, .int .i64 t714, .string t715, v717]), m10_, (by rw [ha.out]; exact putSel_upk 5 hb_ rfl rfl rfl), fun _ => (by exact bk BK698.out), fun h0_ => absurd ((hon 2 (by kernel_rfl)).symm.trans h0_) (by decide), (by exact kw HK.out), (by exact bw HB.out), z_HO709, Q_HA_HO709, fun _ h1_ => absurd ((up_self b 8).symm.trans h1_) (by decide), fun _ => (by (with_reducible repeat (first | apply Kd.V_alloc | apply Kd.V_drewN | apply Kd.V_drew)); exact Kd.V_mono HO718.out (fun _ hk => okp hk)), fun _ => (by exact sw105 HI0.out), fun h0_ => absurd ((hoff 9 (by kernel_rfl)).symm.trans h0_) (by decide), fun h0_ => absurd ((hoff 11 (by kernel_rfl)).symm.trans h0_) (by decide), Q_X3_, fun _ => rfl, fun h0_ => absurd ((hoff 10 (by kernel_rfl)).symm.trans h0_) (by decide)⟩
          refine steps_cons ?_ ?_
          ·
           rintro b a w' ⟨v708, adz_v708, v717, v721, m3_, m8_, m10_, ha, Q_BK698, Q_HI0, Q_HK, Q_HB, Q_HO709, Q_HA_HO709, Q_HI0_e2, Q_HO718, Q_HI0_e8, Q_HO722, Q_BK698_e11, Q_X3_, Q_X8_, Q_X10_⟩ hb_ hon hoff
           refine ⟨_, rfl, fun K hK => ?_⟩
           have e30 : a.tmps[30]? = some (m8_) := by rw [ha]; exact putSel_on (e := (8, 30, m8_)) 5 rfl rfl (hon 8 (by kernel_rfl)) rfl
           rw [Q_X8_ (hon 8 (by kernel_rfl))] at e30
           replace ha := Aside0.mk ha
           have BK698 := Aside0.mk (Q_BK698 (hoff 11 (by kernel_rfl)))
           have HK := Aside0.mk Q_HK
           have HB := Aside0.mk Q_HB
           have HO718 := Aside0.mk (Q_HO718 (hon 8 (by kernel_rfl)))
           have HI0 := Aside0.mk (Q_HI0_e8 (hon 8 (by kernel_rfl)))
           obtain ⟨Ao30, co30, eo30⟩ := Kd.V_slice HO718.out
           (first | subst eo30 | (injection eo30 with f1_ f2_ f3_; have f4_ := f1_.symm; have f5_ := f3_.symm; clear f1_ f2_ f3_; subst f4_; subst f5_))
           refine Kd.N_lit_step k55 _ 55 ?hg (N' := 31) ?hd (xs := ([(⟨t713, t714, t715, t716⟩ : S55)] : List (S55))) (inner := [.int .i64 t713, .int .i64 t714, .string t715, .slice Ao30 t716.length co30]) (ok := (fun k_ => (w.heap.size ≤ k_) ∧ k_ ≠ gb698 ∧ k_ ≠ g)) (okp := (fun k_ => (w.heap.size ≤ k_) ∧ k_ ≠ gb698 ∧ k_ ≠ g)) ?hr ?hp (fun _ hk => hk) ((show ∀ k_, w'.heap.size ≤ k_ → (fun k_ => (w.heap.size ≤ k_) ∧ k_ ≠ gb698 ∧ k_ ≠ g) k_ from fun k_ hk => ⟨(Nat.le_trans (keep_size (w := w) (g := g) (row := none) (by exact kw HK.out)) hk), Kd.freshB (g := gb698) (o := .cells #[.int .i64 0, .int .i64 0, .string (⟨#[]⟩ : ByteArray), .slice none 0 0] 55 (0, 0)) (by exact bk BK698.out) k_ hk, IsS105.fresh (by exact sw105 HI0.out) k_ hk⟩) _ (Nat.le_refl _)) (Below.refl _ _) (Nat.le_refl _) (by simp) ?_; (case hd => rfl); (case hg => rfl); (case hr => first | (go_simp; done) | (go_simp; rfl)); (case hp => exact (Reps.c4 (show Kd.FK k55 _ _ (⟨t713, t714, t715, t716⟩ : S55) [.int .i64 t713, .int .i64 t714, .string t715, .slice Ao30 t716.length co30] from (k55_mkF _ _ (⟨t713, t714, t715, t716⟩ : S55) (Kd.V_reads' (Kd.V_mono (ok' := (fun k_ => (w.heap.size ≤ k_) ∧ k_ ≠ gb698 ∧ k_ ≠ g)) (HO718.out) (fun k_ hk => okp hk))).2.1 (Kd.V_F (Kd.V_mono (ok' := (fun k_ => (w.heap.size ≤ k_) ∧ k_ ≠ gb698 ∧ k_ ≠ g)) (HO718.out) (fun k_ hk => okp hk))))) (Reps.none _ _)))
           intro v721 w31 ho32 hb hg_ hnew_
           clear hg_ hnew_
           (first | rw [← Ny720.out] at ho32 | (simp only [Int.reduceToNat] at ho32; rw [← Ny720.out] at ho32))
           have n0_ := Aside0.mk (Kd.V_elder' (by exact Kd.xV HO718.out) (Kd.N_base ho32) hb)
           have n1_ := Aside0.mk (Kd.N_lower ho32 (keep_size (w := w) (g := g) (row := none) (by exact kw HK.out)))
           have n2_ := Aside0.mk (blk_below (g := gb698) (o := .cells #[.int .i64 0, .int .i64 0, .string (⟨#[]⟩ : ByteArray), .slice none 0 0] 55 (0, 0)) (by exact bk BK698.out) hb)
           have n3_ := Aside0.mk (IsS105.below (by exact sw105 HI0.out) hb)
           have n4_ := Aside0.mk (KeepBut.trans (by exact kw HK.out) (KeepBut.of_below hb g none) (.inl rfl))
           have n5_ := Aside0.mk (below_step (by exact bw HB.out) hb)
           have z_HO709 := fun (h0_ : b 0 = true) => (show Kd.R Kd.string 9 w31 w.heap.size (fun k_ => (w.heap.size ≤ k_)) v708 y707 from by first | exact (Kd.R_below (by (with_reducible repeat (first | apply Kd.R_alloc | apply Kd.R_drewN | apply Kd.R_drew)); exact (Q_HO709 h0_)) hb) | exact Kd.R_mono (Kd.R_below (by (with_reducible repeat (first | apply Kd.R_alloc | apply Kd.R_drewN | apply Kd.R_drew)); exact (Q_HO709 h0_)) hb) (fun _ h_ => by first | trivial | exact h_ | exact h_.1))
           clear HO718
           clear BK698
           clear HI0
           clear HK
           clear HB
           have HO718 := n0_
           have HO722 := n1_
           have BK698 := n2_
           have HI0 := n3_
           have HK := n4_
           have HB := n5_
           clear n0_ n1_ n2_ n3_ n4_ n5_
           clear hb ho32
           refine hK.out _ _ ⟨v708, adz_v708, .slice Ao30 t716.length co30, v721, m3_, m8_, m10_, (by rw [ha.out]; exact putSel_upk 6 hb_ rfl rfl rfl), fun _ => (by exact bk BK698.out), fun h0_ => absurd ((hon 2 (by kernel_rfl)).symm.trans h0_) (by decide), (by exact kw HK.out), (by exact bw HB.out), z_HO709, Q_HA_HO709, fun _ h1_ => absurd ((hon 8 (by kernel_rfl)).symm.trans h1_) (by decide), fun _ => (by (with_reducible repeat (first | apply Kd.V_alloc | apply Kd.V_drewN | apply Kd.V_drew)); exact Kd.V_mono HO718.out (fun _ hk => okp hk)), fun _ => (by exact sw105 HI0.out), fun _ => (by (with_reducible repeat (first | apply Kd.N_alloc | apply Kd.N_drewN | apply Kd.N_drew)); exact Kd.N_mono HO722.out (fun _ hk => okp hk)), fun h0_ => absurd ((hoff 11 (by kernel_rfl)).symm.trans h0_) (by decide), Q_X3_, Q_X8_, fun h0_ => absurd ((hoff 10 (by kernel_rfl)).symm.trans h0_) (by decide)⟩
          refine steps_cons ?_ ?_
          ·
           rintro b a w' ⟨v708, adz_v708, v717, v721, m3_, m8_, m10_, ha, Q_BK698, Q_HI0, Q_HK, Q_HB, Q_HO709, Q_HA_HO709, Q_HI0_e2, Q_HO718, Q_HI0_e8, Q_HO722, Q_BK698_e11, Q_X3_, Q_X8_, Q_X10_⟩ hb_ hon hoff
           refine ⟨_, rfl, fun K hK => ?_⟩
           have e26 : a.tmps[26]? = some (.string (rdOf ByteArray.empty y707 t710)) := by rw [ha]; exact putSel_on (e := (4, 26, .string (rdOf ByteArray.empty y707 t710))) 3 rfl rfl (hon 4 (by kernel_rfl)) rfl
           have e31 : a.tmps[31]? = some (v721) := by rw [ha]; exact putSel_on (e := (9, 31, v721)) 6 rfl rfl (hon 9 (by kernel_rfl)) rfl
           replace ha := Aside0.mk ha
           have BK698 := Aside0.mk (Q_BK698 (hoff 11 (by kernel_rfl)))
           have HK := Aside0.mk Q_HK
           have HB := Aside0.mk Q_HB
           have HO709 := Aside0.mk (Q_HO709 (hon 0 (by kernel_rfl)))
           have HA_HO709 := Aside0.mk (Q_HA_HO709 (hon 0 (by kernel_rfl)))
           have HO718 := Aside0.mk (Q_HO718 (hon 8 (by kernel_rfl)))
           have HI0 := Aside0.mk (Q_HI0_e8 (hon 8 (by kernel_rfl)))
           have HO722 := Aside0.mk (Q_HO722 (hon 9 (by kernel_rfl)))
           obtain ⟨Ao10_0, co10_0, eo_⟩ := Kd.N_slice HO722.out
           subst eo_
           refine value_ (w1 := w') (v := .agg #[.int .i64 8, .int .i64 0, .string (rdOf ByteArray.empty y707 t710), .slice Ao10_0 y720.length co10_0]) (by rfl) rfl ?_ ?_
           ·
            go_simp
            (try simp only [i64_w])
            try rfl
           refine hK.out _ _ ⟨v708, adz_v708, v717, .slice Ao10_0 y720.length co10_0, m3_, m8_, (.agg #[.int .i64 8, .int .i64 0, .string (rdOf ByteArray.empty y707 t710), .slice Ao10_0 y720.length co10_0]), (by rw [ha.out]; exact putSel_upk 7 hb_ rfl rfl rfl), Q_BK698, fun h0_ => absurd ((hon 2 (by kernel_rfl)).symm.trans h0_) (by decide), Q_HK, Q_HB, Q_HO709, Q_HA_HO709, fun _ h1_ => absurd ((hon 8 (by kernel_rfl)).symm.trans h1_) (by decide), Q_HO718, Q_HI0_e8, Q_HO722, fun h0_ => absurd ((hoff 11 (by kernel_rfl)).symm.trans h0_) (by decide), Q_X3_, Q_X8_, fun _ => rfl⟩
          refine steps_cons ?_ ?_
          ·
           rintro b a w' ⟨v708, adz_v708, v717, v721, m3_, m8_, m10_, ha, Q_BK698, Q_HI0, Q_HK, Q_HB, Q_HO709, Q_HA_HO709, Q_HI0_e2, Q_HO718, Q_HI0_e8, Q_HO722, Q_BK698_e11, Q_X3_, Q_X8_, Q_X10_⟩ hb_ hon hoff
           refine ⟨_, rfl, fun K hK => ?_⟩
           have e4 : a.tmps[4]? = some (.pointer (some ⟨gb698, 0, none⟩)) := by rw [ha]; exact (putSel_off rfl).trans rfl
           have e32 : a.tmps[32]? = some (m10_) := by rw [ha]; exact putSel_on (e := (10, 32, m10_)) 7 rfl rfl (hon 10 (by kernel_rfl)) rfl
           rw [Q_X10_ (hon 10 (by kernel_rfl))] at e32
           replace ha := Aside0.mk ha
           have BK698 := Aside0.mk (Q_BK698 hb_)
           have HK := Aside0.mk Q_HK
           have HB := Aside0.mk Q_HB
           have HO709 := Aside0.mk (Q_HO709 (hon 0 (by kernel_rfl)))
           have HA_HO709 := Aside0.mk (Q_HA_HO709 (hon 0 (by kernel_rfl)))
           have HO718 := Aside0.mk (Q_HO718 (hon 8 (by kernel_rfl)))
           have HI0 := Aside0.mk (Q_HI0_e8 (hon 8 (by kernel_rfl)))
           have HO722 := Aside0.mk (Q_HO722 (hon 9 (by kernel_rfl)))
           obtain ⟨co37, eo37⟩ := HA_HO709.out
           clear HA_HO709
           subst eo37
           obtain ⟨Ao38, co38, eo38⟩ := Kd.N_slice HO722.out
           (first | subst eo38 | (injection eo38 with f1_ f2_ f3_; have f4_ := f1_.symm; have f5_ := f3_.symm; clear f1_ f2_ f3_; subst f4_; subst f5_))
           have hs39 : w'.cell? ⟨gb698, 0, none⟩ = some (.int .i64 0) := (blk_cell BK698.out 0).trans rfl
           have hfs39 := blk_frozen BK698.out 0
           have hs40 : w'.cell? ⟨gb698, 1, none⟩ = some (.int .i64 0) := (blk_cell BK698.out 1).trans rfl
           have hfs40 := blk_frozen BK698.out 1
           have hs41 : w'.cell? ⟨gb698, 2, none⟩ = some (.string (⟨#[]⟩ : ByteArray)) := (blk_cell BK698.out 2).trans rfl
           have hfs41 := blk_frozen BK698.out 2
           have hs42 : w'.cell? ⟨gb698, 3, none⟩ = some (.slice none 0 0) := (blk_cell BK698.out 3).trans rfl
           have hfs42 := blk_frozen BK698.out 3
           refine skip_ (w1 := ?_) (by rfl) rfl ?_ ?_
           rotate_left
           ·
            go_simp
            rfl
           refine hK.out _ _ ⟨.slice (some adz_v708) y707.length co37, adz_v708, v717, .slice Ao38 y720.length co38, m3_, m8_, m10_, (by rw [ha.out]; exact putSel_none (v := undef) rfl), fun h0_ => absurd ((up_self b 11).symm.trans h0_) (by decide), fun h0_ => absurd ((hon 2 (by kernel_rfl)).symm.trans h0_) (by decide), (by exact kw HK.out), (by exact bw HB.out), fun _ => (by (with_reducible repeat (first | apply Kd.R_alloc | apply Kd.R_drewN | apply Kd.R_drew)); exact Kd.R_mono (Kd.R_far (p := ⟨gb698, 3, none⟩) (Kd.R_far (p := ⟨gb698, 2, none⟩) (Kd.R_far (p := ⟨gb698, 1, none⟩) (Kd.R_far (p := ⟨gb698, 0, none⟩) (Kd.R_types HO709.out BK698.out (by decide)) (fun _ hk => hk.2) (.int .i64 8)) (fun _ hk => hk.2) (.int .i64 0)) (fun _ hk => hk.2) (.string (rdOf ByteArray.empty y707 t710))) (fun _ hk => hk.2) (.slice Ao38 y720.length co38)) (fun _ hk => hk.1)), fun _ => ⟨_, rfl⟩, fun _ h1_ => absurd ((hon 8 (by kernel_rfl)).symm.trans h1_) (by decide), fun _ => (by (with_reducible repeat (first | apply Kd.V_alloc | apply Kd.V_drewN | apply Kd.V_drew)); exact Kd.V_mono (Kd.V_far (p := ⟨gb698, 3, none⟩) (Kd.V_far (p := ⟨gb698, 2, none⟩) (Kd.V_far (p := ⟨gb698, 1, none⟩) (Kd.V_far (p := ⟨gb698, 0, none⟩) (Kd.V_mono HO718.out (fun k_ hk => (⟨hk, okp hk⟩ : _ ∧ k_ ≠ gb698))) (fun _ hk => hk.2) (.int .i64 8)) (fun _ hk => hk.2) (.int .i64 0)) (fun _ hk => hk.2) (.string (rdOf ByteArray.empty y707 t710))) (fun _ hk => hk.2) (.slice Ao38 y720.length co38)) (fun _ hk => okp hk)), fun _ => (by exact sw105 HI0.out), fun _ => (by (with_reducible repeat (first | apply Kd.N_alloc | apply Kd.N_drewN | apply Kd.N_drew)); exact Kd.N_mono (Kd.N_far (p := ⟨gb698, 3, none⟩) (Kd.N_far (p := ⟨gb698, 2, none⟩) (Kd.N_far (p := ⟨gb698, 1, none⟩) (Kd.N_far (p := ⟨gb698, 0, none⟩) (Kd.N_mono HO722.out (fun k_ hk => (⟨hk, okp hk⟩ : _ ∧ k_ ≠ gb698))) (fun _ hk => hk.2) (.int .i64 8)) (fun _ hk => hk.2) (.int .i64 0)) (fun _ hk => hk.2) (.string (rdOf ByteArray.empty y707 t710))) (fun _ hk => hk.2) (.slice Ao38 y720.length co38)) (fun _ hk => okp hk)), fun _ => (by (with_reducible repeat (first | refine blk_drewN ?_ _ | refine blk_drew ?_ | refine blk_alloc ?_ _)); refine blk_put (cs := #[.int .i64 8, .int .i64 0, .string (rdOf ByteArray.empty y707 t710), .slice none 0 0]) ?_ 3 _ rfl; (with_reducible repeat (first | refine blk_drewN ?_ _ | refine blk_drew ?_ | refine blk_alloc ?_ _)); refine blk_put (cs := #[.int .i64 8, .int .i64 0, .string (⟨#[]⟩ : ByteArray), .slice none 0 0]) ?_ 2 _ rfl; (with_reducible repeat (first | refine blk_drewN ?_ _ | refine blk_drew ?_ | refine blk_alloc ?_ _)); refine blk_put (cs := #[.int .i64 8, .int .i64 0, .string (⟨#[]⟩ : ByteArray), .slice none 0 0]) ?_ 1 _ rfl; (with_reducible repeat (first | refine blk_drewN ?_ _ | refine blk_drew ?_ | refine blk_alloc ?_ _)); refine blk_put (cs := #[.int .i64 0, .int .i64 0, .string (⟨#[]⟩ : ByteArray), .slice none 0 0]) ?_ 0 _ rfl; exact bk BK698.out), Q_X3_, Q_X8_, Q_X10_⟩
          exact steps_nil
         rintro b a w40 hall ⟨v708, adz_v708, v717, v721, m3_, m8_, m10_, ha, Q_BK698, Q_HI0, Q_HK, Q_HB, Q_HO709, Q_HA_HO709, Q_HI0_e2, Q_HO718, Q_HI0_e8, Q_HO722, Q_BK698_e11, Q_X3_, Q_X8_, Q_X10_⟩
         clear BK698 HB HI0 HK
         have hb0_ := hall 0 (by kernel_rfl)
         have hb2_ := hall 2 (by kernel_rfl)
         have hb3_ := hall 3 (by kernel_rfl)
         have hb4_ := hall 4 (by kernel_rfl)
         have hb7_ := hall 7 (by kernel_rfl)
         have hb8_ := hall 8 (by kernel_rfl)
         have hb9_ := hall 9 (by kernel_rfl)
         have hb10_ := hall 10 (by kernel_rfl)
         have hb11_ := hall 11 (by kernel_rfl)
         subst ha
         obtain rfl := Q_X3_ hb3_
         obtain rfl := Q_X8_ hb8_
         obtain rfl := Q_X10_ hb10_
         simp only [putSel, hb0_, hb2_, hb3_, hb4_, hb7_, hb8_, hb9_, hb10_, hb11_, if_true, Act.put, List.setIfInBounds_toArray, List.set_cons_zero, List.set_cons_succ]
         clear Q_BK698
         clear Q_HI0
         have HK := Aside0.mk Q_HK
         clear Q_HK
         have HB := Aside0.mk Q_HB
         clear Q_HB
         have HO709 := Aside0.mk (Q_HO709 hb0_)
         clear Q_HO709
         have HA_HO709 := Aside0.mk (Q_HA_HO709 hb0_)
         clear Q_HA_HO709
         clear Q_HI0_e2
         have HO718 := Aside0.mk (Q_HO718 hb8_)
         clear Q_HO718
         have HI0 := Aside0.mk (Q_HI0_e8 hb8_)
         clear Q_HI0_e8
         have HO722 := Aside0.mk (Q_HO722 hb9_)
         clear Q_HO722
         have BK698 := Aside0.mk (Q_BK698_e11 hb11_)
         clear Q_BK698_e11
         clear hall hb0_ hb2_ hb3_ hb4_ hb7_ hb8_ hb9_ hb10_ hb11_
         obtain ⟨co41, eo41⟩ := HA_HO709.out
         clear HA_HO709
         subst eo41
         obtain ⟨Ao42, co42, eo42⟩ := Kd.N_slice HO722.out
         (first | subst eo42 | (injection eo42 with f1_ f2_ f3_; have f4_ := f1_.symm; have f5_ := f3_.symm; clear f1_ f2_ f3_; subst f4_; subst f5_))
         try go_wp2
         refine bodyPost_ret (results_cell_row rfl _ _ gb698 55 #[.int .i64 8, .int .i64 0, .string (rdOf ByteArray.empty y707 t710), .slice Ao42 y720.length co42] (0, 0) _ rfl (by exact bk BK698.out) Try.underlying55 rfl (by kernel_rfl)) rfl ?_
         exact ⟨_, by first | rfl | (simp [errW_none, errW_some] <;> rfl) | (simp [*, errW_none, errW_some] <;> rfl), by (with_reducible repeat (first | apply Kd.N_alloc | apply Kd.N_drewN | apply Kd.N_drew)); exact Kd.N_mono HO722.out (fun _ hk => hk.1), by exact sw105 HI0.out, by exact bw HB.out, by exact kw HK.out⟩
        ·
         rw [if_neg c24] at H
         exact absurd H (by simp)
       ·
        rw [if_neg c23] at H
        exact absurd H (by simp)
      ·
       rw [if_neg c21] at H
       have c21b0 : decide (0 < a1) = false := decide_eq_false c21
       clear c21
       replace H := Option.bind_eq_some_iff.mp H
       obtain ⟨⟨t723, t724⟩, A430, H⟩ := H
       replace H : (some (2, t723, (⟨#[]⟩ : ByteArray), ([] : List (S55)), t724)) = some (r1, r2, r3, r4, r5) := H
       have A43 := Aside0.mk A430
       clear A430
       simp only [Option.some.injEq, Prod.mk.injEq] at H
       obtain ⟨rfl, rfl, rfl, rfl, rfl⟩ := H
       go_wp2_with (first | ((with_reducible refine gate_callee (f := 62) rfl ?_); refine gl (some 34) Try.func62 #[.pointer (some ⟨g, 0, none⟩), .int .i64 5] ?_; (with_reducible refine (spec_l20Rd_pick.calls kj2 g s0_0 x1001_2 5 t723 t724 w0 _ ?side1 ?side2 A43.out).mono ?_); (case side1 => exact sw105 HI0.out); (case side2 => exact bw HB.out); rintro e w44 ⟨rfl, hi, hb, hk⟩; refine ⟨_, rfl, ?_⟩; have n0_ := Aside0.mk (KeepBut.blk hk (g' := gb698) (o := .cells #[.int .i64 0, .int .i64 0, .string (⟨#[]⟩ : ByteArray), .slice none 0 0] 55 (0, 0)) (by exact bk BK698.out) NB698_0.out (by simp)); have n1_ := Aside0.mk (KeepBut.trans (by exact kw HK.out) hk (.inl rfl)); have n2_ := Aside0.mk (hb); have n3_ := Aside0.mk (hi); clear BK698; clear HK; clear HB; clear HI0; have BK698 := n0_; have HK := n1_; have HB := n2_; have HI0 := n3_; clear n0_ n1_ n2_ n3_; (try clear hb); (try clear hb2); (try clear hk); (try clear hi); have hnb45 := NB698_0.out; have hnc45 := NB0_698.out; have hcz46_0 : w44.cell? ⟨gb698, 0, none⟩ = some (.int .i64 0) := (blk_cell BK698.out 0).trans rfl; have hcz46_1 : w44.cell? ⟨gb698, 1, none⟩ = some (.int .i64 0) := (blk_cell BK698.out 1).trans rfl; have hcz46_2 : w44.cell? ⟨gb698, 2, none⟩ = some (.string (⟨#[]⟩ : ByteArray)) := (blk_cell BK698.out 2).trans rfl; have hcz46_3 : w44.cell? ⟨gb698, 3, none⟩ = some (.slice none 0 0) := (blk_cell BK698.out 3).trans rfl; have hfz46_0 := blk_frozen BK698.out 0; have hfz46_1 := blk_frozen BK698.out 1; have hfz46_2 := blk_frozen BK698.out 2; have hfz46_3 := blk_frozen BK698.out 3))
       refine bodyPost_ret (results_cell_row rfl _ _ gb698 55 #[.int .i64 2, .int .i64 t723, .string (⟨#[]⟩ : ByteArray), .slice none 0 0] (0, 0) _ rfl (by (with_reducible repeat (first | refine blk_drewN ?_ _ | refine blk_drew ?_ | refine blk_alloc ?_ _)); refine blk_put (cs := #[.int .i64 2, .int .i64 t723, .string (⟨#[]⟩ : ByteArray), .slice none 0 0]) ?_ 3 _ rfl; (with_reducible repeat (first | refine blk_drewN ?_ _ | refine blk_drew ?_ | refine blk_alloc ?_ _)); refine blk_put (cs := #[.int .i64 2, .int .i64 t723, .string (⟨#[]⟩ : ByteArray), .slice none 0 0]) ?_ 2 _ rfl; (with_reducible repeat (first | refine blk_drewN ?_ _ | refine blk_drew ?_ | refine blk_alloc ?_ _)); refine blk_put (cs := #[.int .i64 2, .int .i64 0, .string (⟨#[]⟩ : ByteArray), .slice none 0 0]) ?_ 1 _ rfl; (with_reducible repeat (first | refine blk_drewN ?_ _ | refine blk_drew ?_ | refine blk_alloc ?_ _)); refine blk_put (cs := #[.int .i64 0, .int .i64 0, .string (⟨#[]⟩ : ByteArray), .slice none 0 0]) ?_ 0 _ rfl; exact bk BK698.out) Try.underlying55 rfl (by kernel_rfl)) rfl ?_
       exact ⟨_, by first | rfl | (simp [errW_none, errW_some] <;> rfl) | (simp [*, errW_none, errW_some] <;> rfl), by first | exact Kd.R_nil _ _ _ _ _ | exact Kd.N_nil _ _ _ _ _ | exact Kd.V_nil _ _ _ _ _ | exact Kd.Q_nil _ _ _ _ _ | exact Kd.S_nil _ _ _ _ _, by exact sw105 HI0.out, by exact bw HB.out, by exact kw HK.out⟩
     ·
      rw [if_neg c20] at H
      have c20b0 : (x6_2 == 2) = false := beq_eq_false_iff_ne.mpr c20
      have c20b1 : (x6_2 != 2) = true := bne_iff_ne.mpr c20
      replace H := Option.bind_eq_some_iff.mp H
      obtain ⟨⟨t725, t726⟩, A470, H⟩ := H
      replace H : (some (2, t725, (⟨#[]⟩ : ByteArray), ([] : List (S55)), t726)) = some (r1, r2, r3, r4, r5) := H
      have A47 := Aside0.mk A470
      clear A470
      simp only [Option.some.injEq, Prod.mk.injEq] at H
      obtain ⟨rfl, rfl, rfl, rfl, rfl⟩ := H
      go_wp2_with (first | ((with_reducible refine gate_callee (f := 62) rfl ?_); refine gl (some 34) Try.func62 #[.pointer (some ⟨g, 0, none⟩), .int .i64 5] ?_; (with_reducible refine (spec_l20Rd_pick.calls kj2 g s0_0 x1001_2 5 t725 t726 w0 _ ?side1 ?side2 A47.out).mono ?_); (case side1 => exact sw105 HI0.out); (case side2 => exact bw HB.out); rintro e w48 ⟨rfl, hi, hb, hk⟩; refine ⟨_, rfl, ?_⟩; have n0_ := Aside0.mk (KeepBut.blk hk (g' := gb698) (o := .cells #[.int .i64 0, .int .i64 0, .string (⟨#[]⟩ : ByteArray), .slice none 0 0] 55 (0, 0)) (by exact bk BK698.out) NB698_0.out (by simp)); have n1_ := Aside0.mk (KeepBut.trans (by exact kw HK.out) hk (.inl rfl)); have n2_ := Aside0.mk (hb); have n3_ := Aside0.mk (hi); clear BK698; clear HK; clear HB; clear HI0; have BK698 := n0_; have HK := n1_; have HB := n2_; have HI0 := n3_; clear n0_ n1_ n2_ n3_; (try clear hb); (try clear hb2); (try clear hk); (try clear hi); have hnb49 := NB698_0.out; have hnc49 := NB0_698.out; have hcz50_0 : w48.cell? ⟨gb698, 0, none⟩ = some (.int .i64 0) := (blk_cell BK698.out 0).trans rfl; have hcz50_1 : w48.cell? ⟨gb698, 1, none⟩ = some (.int .i64 0) := (blk_cell BK698.out 1).trans rfl; have hcz50_2 : w48.cell? ⟨gb698, 2, none⟩ = some (.string (⟨#[]⟩ : ByteArray)) := (blk_cell BK698.out 2).trans rfl; have hcz50_3 : w48.cell? ⟨gb698, 3, none⟩ = some (.slice none 0 0) := (blk_cell BK698.out 3).trans rfl; have hfz50_0 := blk_frozen BK698.out 0; have hfz50_1 := blk_frozen BK698.out 1; have hfz50_2 := blk_frozen BK698.out 2; have hfz50_3 := blk_frozen BK698.out 3))
      refine bodyPost_ret (results_cell_row rfl _ _ gb698 55 #[.int .i64 2, .int .i64 t725, .string (⟨#[]⟩ : ByteArray), .slice none 0 0] (0, 0) _ rfl (by (with_reducible repeat (first | refine blk_drewN ?_ _ | refine blk_drew ?_ | refine blk_alloc ?_ _)); refine blk_put (cs := #[.int .i64 2, .int .i64 t725, .string (⟨#[]⟩ : ByteArray), .slice none 0 0]) ?_ 3 _ rfl; (with_reducible repeat (first | refine blk_drewN ?_ _ | refine blk_drew ?_ | refine blk_alloc ?_ _)); refine blk_put (cs := #[.int .i64 2, .int .i64 t725, .string (⟨#[]⟩ : ByteArray), .slice none 0 0]) ?_ 2 _ rfl; (with_reducible repeat (first | refine blk_drewN ?_ _ | refine blk_drew ?_ | refine blk_alloc ?_ _)); refine blk_put (cs := #[.int .i64 2, .int .i64 0, .string (⟨#[]⟩ : ByteArray), .slice none 0 0]) ?_ 1 _ rfl; (with_reducible repeat (first | refine blk_drewN ?_ _ | refine blk_drew ?_ | refine blk_alloc ?_ _)); refine blk_put (cs := #[.int .i64 0, .int .i64 0, .string (⟨#[]⟩ : ByteArray), .slice none 0 0]) ?_ 0 _ rfl; exact bk BK698.out) Try.underlying55 rfl (by kernel_rfl)) rfl ?_
      exact ⟨_, by first | rfl | (simp [errW_none, errW_some] <;> rfl) | (simp [*, errW_none, errW_some] <;> rfl), by first | exact Kd.R_nil _ _ _ _ _ | exact Kd.N_nil _ _ _ _ _ | exact Kd.V_nil _ _ _ _ _ | exact Kd.Q_nil _ _ _ _ _ | exact Kd.S_nil _ _ _ _ _, by exact sw105 HI0.out, by exact bw HB.out, by exact kw HK.out⟩

end Go.Proofs.Ytejfaenmgdkaoaa.P
