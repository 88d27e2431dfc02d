-- Written by a program of this session (wip/tool).
import Derived.Test.YtejfaenmgdkaoaaPx0
import Derived.Test.YtejfaenmgdkaoaaPx1
namespace Go.Proofs.Ytejfaenmgdkaoaa.P
open Go.RowKit Go.Proofs.YtejfaenmgdkaoaaW.PrintWords Go.Proofs.YtejfaenmgdkaoaaW.PrintLast Go.Proofs.YtejfaenmgdkaoaaW.PrintMore
attribute [local go_sem] max2_int min2_int max_two min_two max_three min_three max_four min_four   -- for this text's walks alone
set_option linter.unusedVariables false
set_option linter.unusedSimpArgs false

/-! ### spec_l20Thing: function 87 -/
def spec_l20Thing.f : Nat → List Int → Int → Int → Option (Int × Int × ByteArray × (List (S55)) × Int)
 | 0, _, _, _ => none
 | k + 1, s0_0, s0_1, a1 => (spec_l20Rd_pick.f k s0_0 s0_1 5).bind fun bt672 => (if bt672.1 = 0 then (some (5, 0, (⟨#[]⟩ : ByteArray), ([] : List (S55)), bt672.2)) else (if bt672.1 = 1 then ((spec_l20Rd_pick.f k s0_0 bt672.2 4).bind fun bt674 => (some (3, bt674.1, (⟨#[]⟩ : ByteArray), ([] : List (S55)), bt674.2))) else (if bt672.1 = 2 then ((some (([(⟨#[111, 119, 110, 101, 114]⟩ : ByteArray), (⟨#[98, 111, 115, 115]⟩ : ByteArray)] : List ByteArray) : List ByteArray)).bind fun y676 => ((spec_l20Rd_pick.f k s0_0 bt672.2 2).bind fun bt679 => (if 0 ≤ bt679.1 then (if bt679.1 < (y676.length : Int) then (some (7, 0, rdOf ByteArray.empty y676 bt679.1, ([] : List (S55)), bt679.2)) else (none)) else (none)))) else (if bt672.1 = 3 then (if a1 > 0 then ((some (([(⟨#[111, 119, 110, 101, 114]⟩ : ByteArray), (⟨#[98, 111, 115, 115]⟩ : ByteArray)] : List ByteArray) : List ByteArray)).bind fun y682 => ((spec_l20Rd_pick.f k s0_0 bt672.2 2).bind fun bt685 => (if 0 ≤ bt685.1 then (if bt685.1 < (y682.length : Int) then ((spec_l20Thing.f k s0_0 bt685.2 (wrap64 (a1 - 1))).bind fun bt688 => (some (8, 0, rdOf ByteArray.empty y682 bt685.1, (([(⟨bt688.1, bt688.2.1, bt688.2.2.1, bt688.2.2.2.1⟩ : S55)] : List (S55))), bt688.2.2.2.2))) else (none)) else (none)))) else (some (4, 0, (⟨#[]⟩ : ByteArray), ([] : List (S55)), bt672.2))) else (some (4, 0, (⟨#[]⟩ : ByteArray), ([] : List (S55)), bt672.2))))))
theorem spec_l20Thing.mono_l : ∀ k, (∀ y0 y1 y2, LeO (spec_l20Thing.f k y0 y1 y2) (spec_l20Thing.f (k + 1) y0 y1 y2))
 | 0 => fun _ _ _ r h => by simp [spec_l20Thing.f] at h
 | k + 1 => by
  have ih0 := spec_l20Thing.mono_l k
  ·
   intro y0 y1 y2
   unfold spec_l20Thing.f
   repeat' first
   | (with_reducible exact ih0 _ _ _)
   | (with_reducible exact spec_l20Rd_pick.mono _ _ _ _)
   | (with_reducible exact LeO.refl _)
   | (with_reducible exact LeO.none _)
   | (with_reducible refine LeO.ite ?_ ?_)
   | (with_reducible refine LeO.bind ?_ (fun _ => ?_))
   | exact ih0 _ _ _
   | exact spec_l20Rd_pick.mono _ _ _ _
   | exact LeO.none _
   | refine LeO.ite ?_ ?_
   | refine LeO.bind ?_ (fun _ => ?_)
theorem spec_l20Thing.mono : ∀ a0 a1 a2 k, LeO (spec_l20Thing.f k a0 a1 a2) (spec_l20Thing.f (k + 1) a0 a1 a2) := by
 intro a0 a1 a2 k
 have ih0 := spec_l20Thing.mono_l k
 exact ih0 a0 a1 a2
def spec_l20Thing.T10 : Bool × List (List Nat × List Nat) := (true, [([], []), ([], []), ([1], [1]), ([0, 2], [0, 2]), ([3], [3]), ([], []), ([], []), ([6], [6]), ([5, 7, 2], [5, 7]), ([8], [8]), ([4, 9], [4, 9]), ([10, 8, 0, 1, 2, 3, 4, 5, 6, 7, 8, 9, 10], [10])])
def spec_l20Thing.B10 : List Nat := [0, 0, 2, 7, 15, 0, 0, 64, 230, 486, 1023, 2047]
theorem spec_l20Thing.tab10 : rtab .any (opsOf Try.f87 10) = spec_l20Thing.T10 := by kernel_rfl
theorem spec_l20Thing.bits10 : waitsOk spec_l20Thing.T10.2 spec_l20Thing.B10 = true := by kernel_rfl
abbrev spec_l20Thing.m0 : Array Bool := #[false, false, false, false, false, false, false, false, false, false, false, false]
abbrev spec_l20Thing.m1 : Array Bool := #[false, true, false, false, false, false, false, false, false, false, false, false]
abbrev spec_l20Thing.m2 : Array Bool := #[false, true, false, false, false, true, false, false, false, false, false, false]
abbrev spec_l20Thing.m3 : Array Bool := #[false, true, false, false, false, true, true, false, false, false, false, false]
set_option maxHeartbeats 8000000 in
set_option maxRecDepth 100000 in
theorem spec_l20Thing.calls0 (k : Nat) : ∀ (g : Nat) (s0_0 : List Int) (s0_1 : Int) (a1 : Int) (r1 : Int) (r2 : Int) (r3 : ByteArray) (r4 : List (S55)) (r5 : Int) (w0 w : World) (hI : IsS105 w0 w g s0_0 s0_1) (hB : Below w0.heap.size w0 w) (h : spec_l20Thing.f k s0_0 s0_1 a1 = some (r1, r2, r3, r4, r5)),
  Calls Try.prog 87 #[.pointer (some ⟨g, 0, none⟩), .int .i64 a1] w fun e w' => ∃ v3_ : Value, e = .returned (.agg #[.int .i64 r1, .int .i64 r2, .string r3, v3_]) ∧ Kd.N k55 55 w' w.heap.size (fun k_ => (w.heap.size ≤ k_)) v3_ r4 ∧ IsS105 w0 w' g s0_0 r5 ∧ Below w0.heap.size w0 w' ∧ KeepBut w w' g none := by
 induction k using Nat.strongRecOn with
 | _ k ih =>
 intro g s0_0 s0_1 a1 r1 r2 r3 r4 r5 w0 w hI hB h
 cases k with
 | zero => exact absurd h (by simp [spec_l20Thing.f])
 | succ k =>
 simp only [spec_l20Thing.f] at h
 have hu55 := Try.underlying55
 have HI0 := Aside0.mk hI
 have HK := Aside0.mk (KeepBut.refl w g none)
 have HL := Aside0.mk hB.size
 have HG0 := Aside0.mk (IsS105.ge hI)
 clear hI
 have HW0 := Aside0.mk hB.size
 have HB := Aside0.mk hB
 clear hB
 have H : ((spec_l20Rd_pick.f k s0_0 s0_1 5).bind fun bt672 => (if bt672.1 = 0 then (some (5, 0, (⟨#[]⟩ : ByteArray), ([] : List (S55)), bt672.2)) else (if bt672.1 = 1 then ((spec_l20Rd_pick.f k s0_0 bt672.2 4).bind fun bt674 => (some (3, bt674.1, (⟨#[]⟩ : ByteArray), ([] : List (S55)), bt674.2))) else (if bt672.1 = 2 then ((some (([(⟨#[111, 119, 110, 101, 114]⟩ : ByteArray), (⟨#[98, 111, 115, 115]⟩ : ByteArray)] : List ByteArray) : List ByteArray)).bind fun y676 => ((spec_l20Rd_pick.f k s0_0 bt672.2 2).bind fun bt679 => (if 0 ≤ bt679.1 then (if bt679.1 < (y676.length : Int) then (some (7, 0, rdOf ByteArray.empty y676 bt679.1, ([] : List (S55)), bt679.2)) else (none)) else (none)))) else (if bt672.1 = 3 then (if a1 > 0 then ((some (([(⟨#[111, 119, 110, 101, 114]⟩ : ByteArray), (⟨#[98, 111, 115, 115]⟩ : ByteArray)] : List ByteArray) : List ByteArray)).bind fun y682 => ((spec_l20Rd_pick.f k s0_0 bt672.2 2).bind fun bt685 => (if 0 ≤ bt685.1 then (if bt685.1 < (y682.length : Int) then ((spec_l20Thing.f k s0_0 bt685.2 (wrap64 (a1 - 1))).bind fun bt688 => (some (8, 0, rdOf ByteArray.empty y682 bt685.1, (([(⟨bt688.1, bt688.2.1, bt688.2.2.1, bt688.2.2.2.1⟩ : S55)] : List (S55))), bt688.2.2.2.2))) else (none)) else (none)))) else (some (4, 0, (⟨#[]⟩ : ByteArray), ([] : List (S55)), bt672.2))) else (some (4, 0, (⟨#[]⟩ : ByteArray), ([] : List (S55)), bt672.2))))))) = some (r1, r2, r3, r4, r5) := h
 clear h
 replace H := Option.bind_eq_some_iff.mp H
 obtain ⟨⟨t672, t673⟩, A30, H⟩ := H
 replace H : (if t672 = 0 then (some (5, 0, (⟨#[]⟩ : ByteArray), ([] : List (S55)), t673)) else (if t672 = 1 then ((spec_l20Rd_pick.f k s0_0 t673 4).bind fun bt674 => (some (3, bt674.1, (⟨#[]⟩ : ByteArray), ([] : List (S55)), bt674.2))) else (if t672 = 2 then ((some (([(⟨#[111, 119, 110, 101, 114]⟩ : ByteArray), (⟨#[98, 111, 115, 115]⟩ : ByteArray)] : List ByteArray) : List ByteArray)).bind fun y676 => ((spec_l20Rd_pick.f k s0_0 t673 2).bind fun bt679 => (if 0 ≤ bt679.1 then (if bt679.1 < (y676.length : Int) then (some (7, 0, rdOf ByteArray.empty y676 bt679.1, ([] : List (S55)), bt679.2)) else (none)) else (none)))) else (if t672 = 3 then (if a1 > 0 then ((some (([(⟨#[111, 119, 110, 101, 114]⟩ : ByteArray), (⟨#[98, 111, 115, 115]⟩ : ByteArray)] : List ByteArray) : List ByteArray)).bind fun y682 => ((spec_l20Rd_pick.f k s0_0 t673 2).bind fun bt685 => (if 0 ≤ bt685.1 then (if bt685.1 < (y682.length : Int) then ((spec_l20Thing.f k s0_0 bt685.2 (wrap64 (a1 - 1))).bind fun bt688 => (some (8, 0, rdOf ByteArray.empty y682 bt685.1, (([(⟨bt688.1, bt688.2.1, bt688.2.2.1, bt688.2.2.2.1⟩ : S55)] : List (S55))), bt688.2.2.2.2))) else (none)) else (none)))) else (some (4, 0, (⟨#[]⟩ : ByteArray), ([] : List (S55)), t673))) else (some (4, 0, (⟨#[]⟩ : ByteArray), ([] : List (S55)), t673)))))) = some (r1, r2, r3, r4, r5) := H
 have A3 := Aside0.mk A30
 clear A30
 by_cases c4 : t672 = 0
 ·
  rw [if_pos c4] at H
  have c4b0 : (t672 == 0) = true := beq_iff_eq.mpr c4
  have c4b1 : (t672 != 0) = false := bne_eq_false_iff_eq.mpr c4
  clear c4
  simp only [Option.some.injEq, Prod.mk.injEq] at H
  obtain ⟨rfl, rfl, rfl, rfl, rfl⟩ := H
  go_enter Try.func87, Try.ntmps87
  go_wp2_with (first | ((with_reducible refine gate_dst (N := 4) rfl ?_); refine box_event ?hg (N := 4) ?hd (cs := #[.int .i64 0, .int .i64 0, .string (⟨#[]⟩ : ByteArray), .slice none 0 0]) (t := 55) ?hr ?_; (case hd => rfl); (case hg => rfl); (case hr => first | (go_simp; done) | (go_simp; rfl)); intro gb671 hg w5 hbox hb; have n0_ := Aside0.mk (IsS105.below (by exact sw105 HI0.out) hb); have n1_ := Aside0.mk (KeepBut.trans (by exact kw HK.out) (KeepBut.of_below hb g none) (.inl rfl)); have n2_ := Aside0.mk (below_step (by exact bw HB.out) hb); have n3_ := Aside0.mk (hbox); have n4_ := Aside0.mk ((by rw [hg]; exact (keep_size (w := w) (g := g) (row := none) (by exact kw HK.out)) : w.heap.size ≤ gb671)); have n5_ := Aside0.mk ((Nat.le_trans HW0.out (by rw [hg]; exact (keep_size (w := w) (g := g) (row := none) (by exact kw HK.out)) : w.heap.size ≤ gb671) : w0.heap.size ≤ gb671)); have n6_ := Aside0.mk ((by rw [hg]; exact Nat.ne_of_lt (IsS105.lt (show IsS105 w0 _ g s0_0 s0_1 from by exact sw105 HI0.out)) : g ≠ gb671)); have n7_ := Aside0.mk ((by rw [hg]; exact Nat.ne_of_gt (IsS105.lt (show IsS105 w0 _ g s0_0 s0_1 from by exact sw105 HI0.out)) : gb671 ≠ g)); clear HI0; clear HK; clear HB; have HI0 := n0_; have HK := n1_; have HB := n2_; have BK671 := n3_; have GW671 := n4_; have GE671 := n5_; have NB0_671 := n6_; have NB671_0 := n7_; clear n0_ n1_ n2_ n3_ n4_ n5_ n6_ n7_; clear hb hbox hg) | ((with_reducible refine gate_callee (f := 62) rfl ?_); refine gl (some 6) Try.func62 #[.pointer (some ⟨g, 0, none⟩), .int .i64 5] ?_; (with_reducible refine (spec_l20Rd_pick.calls k g s0_0 s0_1 5 t672 t673 w0 _ ?side1 ?side2 A3.out).mono ?_); (case side1 => exact sw105 HI0.out); (case side2 => exact bw HB.out); rintro e w6 ⟨rfl, hi, hb, hk⟩; refine ⟨_, rfl, ?_⟩; have n0_ := Aside0.mk (KeepBut.blk hk (g' := gb671) (o := .cells #[.int .i64 0, .int .i64 0, .string (⟨#[]⟩ : ByteArray), .slice none 0 0] 55 (0, 0)) (by exact bk BK671.out) NB671_0.out (by simp)); have n1_ := Aside0.mk (KeepBut.trans (by exact kw HK.out) hk (.inl rfl)); have n2_ := Aside0.mk (hb); have n3_ := Aside0.mk (hi); clear BK671; clear HK; clear HB; clear HI0; have BK671 := n0_; have HK := n1_; have HB := n2_; have HI0 := n3_; clear n0_ n1_ n2_ n3_; (try clear hb); (try clear hb2); (try clear hk); (try clear hi); have hnb7 := NB671_0.out; have hnc7 := NB0_671.out; have hcz8_0 : w6.cell? ⟨gb671, 0, none⟩ = some (.int .i64 0) := (blk_cell BK671.out 0).trans rfl; have hcz8_1 : w6.cell? ⟨gb671, 1, none⟩ = some (.int .i64 0) := (blk_cell BK671.out 1).trans rfl; have hcz8_2 : w6.cell? ⟨gb671, 2, none⟩ = some (.string (⟨#[]⟩ : ByteArray)) := (blk_cell BK671.out 2).trans rfl; have hcz8_3 : w6.cell? ⟨gb671, 3, none⟩ = some (.slice none 0 0) := (blk_cell BK671.out 3).trans rfl; have hfz8_0 := blk_frozen BK671.out 0; have hfz8_1 := blk_frozen BK671.out 1; have hfz8_2 := blk_frozen BK671.out 2; have hfz8_3 := blk_frozen BK671.out 3))
  refine bodyPost_ret (results_cell_row rfl _ _ gb671 55 #[.int .i64 5, .int .i64 0, .string (⟨#[]⟩ : ByteArray), .slice none 0 0] (0, 0) _ rfl (by (with_reducible repeat (first | refine blk_drewN ?_ _ | refine blk_drew ?_ | refine blk_alloc ?_ _)); refine blk_put (cs := #[.int .i64 5, .int .i64 0, .string (⟨#[]⟩ : ByteArray), .slice none 0 0]) ?_ 3 _ rfl; (with_reducible repeat (first | refine blk_drewN ?_ _ | refine blk_drew ?_ | refine blk_alloc ?_ _)); refine blk_put (cs := #[.int .i64 5, .int .i64 0, .string (⟨#[]⟩ : ByteArray), .slice none 0 0]) ?_ 2 _ rfl; (with_reducible repeat (first | refine blk_drewN ?_ _ | refine blk_drew ?_ | refine blk_alloc ?_ _)); refine blk_put (cs := #[.int .i64 5, .int .i64 0, .string (⟨#[]⟩ : ByteArray), .slice none 0 0]) ?_ 1 _ rfl; (with_reducible repeat (first | refine blk_drewN ?_ _ | refine blk_drew ?_ | refine blk_alloc ?_ _)); refine blk_put (cs := #[.int .i64 0, .int .i64 0, .string (⟨#[]⟩ : ByteArray), .slice none 0 0]) ?_ 0 _ rfl; exact bk BK671.out) Try.underlying55 rfl (by kernel_rfl)) rfl ?_
  exact ⟨_, by first | rfl | (simp [errW_none, errW_some] <;> rfl) | (simp [*, errW_none, errW_some] <;> rfl), by first | exact Kd.R_nil _ _ _ _ _ | exact Kd.N_nil _ _ _ _ _ | exact Kd.V_nil _ _ _ _ _ | exact Kd.Q_nil _ _ _ _ _ | exact Kd.S_nil _ _ _ _ _, by exact sw105 HI0.out, by exact bw HB.out, by exact kw HK.out⟩
 ·
  rw [if_neg c4] at H
  have c4b0 : (t672 == 0) = false := beq_eq_false_iff_ne.mpr c4
  have c4b1 : (t672 != 0) = true := bne_iff_ne.mpr c4
  by_cases c9 : t672 = 1
  ·
   rw [if_pos c9] at H
   have c9b0 : (t672 == 1) = true := beq_iff_eq.mpr c9
   have c9b1 : (t672 != 1) = false := bne_eq_false_iff_eq.mpr c9
   clear c9
   replace H := Option.bind_eq_some_iff.mp H
   obtain ⟨⟨t674, t675⟩, A100, H⟩ := H
   replace H : (some (3, t674, (⟨#[]⟩ : ByteArray), ([] : List (S55)), t675)) = some (r1, r2, r3, r4, r5) := H
   have A10 := Aside0.mk A100
   clear A100
   simp only [Option.some.injEq, Prod.mk.injEq] at H
   obtain ⟨rfl, rfl, rfl, rfl, rfl⟩ := H
   go_enter Try.func87, Try.ntmps87
   go_wp2_with (first | ((with_reducible refine gate_dst (N := 4) rfl ?_); refine box_event ?hg (N := 4) ?hd (cs := #[.int .i64 0, .int .i64 0, .string (⟨#[]⟩ : ByteArray), .slice none 0 0]) (t := 55) ?hr ?_; (case hd => rfl); (case hg => rfl); (case hr => first | (go_simp; done) | (go_simp; rfl)); intro gb671 hg w11 hbox hb; have n0_ := Aside0.mk (IsS105.below (by exact sw105 HI0.out) hb); have n1_ := Aside0.mk (KeepBut.trans (by exact kw HK.out) (KeepBut.of_below hb g none) (.inl rfl)); have n2_ := Aside0.mk (below_step (by exact bw HB.out) hb); have n3_ := Aside0.mk (hbox); have n4_ := Aside0.mk ((by rw [hg]; exact (keep_size (w := w) (g := g) (row := none) (by exact kw HK.out)) : w.heap.size ≤ gb671)); have n5_ := Aside0.mk ((Nat.le_trans HW0.out (by rw [hg]; exact (keep_size (w := w) (g := g) (row := none) (by exact kw HK.out)) : w.heap.size ≤ gb671) : w0.heap.size ≤ gb671)); have n6_ := Aside0.mk ((by rw [hg]; exact Nat.ne_of_lt (IsS105.lt (show IsS105 w0 _ g s0_0 s0_1 from by exact sw105 HI0.out)) : g ≠ gb671)); have n7_ := Aside0.mk ((by rw [hg]; exact Nat.ne_of_gt (IsS105.lt (show IsS105 w0 _ g s0_0 s0_1 from by exact sw105 HI0.out)) : gb671 ≠ g)); clear HI0; clear HK; clear HB; have HI0 := n0_; have HK := n1_; have HB := n2_; have BK671 := n3_; have GW671 := n4_; have GE671 := n5_; have NB0_671 := n6_; have NB671_0 := n7_; clear n0_ n1_ n2_ n3_ n4_ n5_ n6_ n7_; clear hb hbox hg) | ((with_reducible refine gate_callee (f := 62) rfl ?_); refine gl (some 6) Try.func62 #[.pointer (some ⟨g, 0, none⟩), .int .i64 5] ?_; (with_reducible refine (spec_l20Rd_pick.calls k g s0_0 s0_1 5 t672 t673 w0 _ ?side1 ?side2 A3.out).mono ?_); (case side1 => exact sw105 HI0.out); (case side2 => exact bw HB.out); rintro e w12 ⟨rfl, hi, hb, hk⟩; refine ⟨_, rfl, ?_⟩; have n0_ := Aside0.mk (KeepBut.blk hk (g' := gb671) (o := .cells #[.int .i64 0, .int .i64 0, .string (⟨#[]⟩ : ByteArray), .slice none 0 0] 55 (0, 0)) (by exact bk BK671.out) NB671_0.out (by simp)); have n1_ := Aside0.mk (KeepBut.trans (by exact kw HK.out) hk (.inl rfl)); have n2_ := Aside0.mk (hb); have n3_ := Aside0.mk (hi); clear BK671; clear HK; clear HB; clear HI0; have BK671 := n0_; have HK := n1_; have HB := n2_; have HI0 := n3_; clear n0_ n1_ n2_ n3_; (try clear hb); (try clear hb2); (try clear hk); (try clear hi)) | ((with_reducible refine gate_callee (f := 62) rfl ?_); refine gl (some 13) Try.func62 #[.pointer (some ⟨g, 0, none⟩), .int .i64 4] ?_; (with_reducible refine (spec_l20Rd_pick.calls k g s0_0 t673 4 t674 t675 w0 _ ?side1 ?side2 A10.out).mono ?_); (case side1 => exact sw105 HI0.out); (case side2 => exact bw HB.out); rintro e w13 ⟨rfl, hi, hb, hk⟩; refine ⟨_, rfl, ?_⟩; have n0_ := Aside0.mk (KeepBut.blk hk (g' := gb671) (o := .cells #[.int .i64 0, .int .i64 0, .string (⟨#[]⟩ : ByteArray), .slice none 0 0] 55 (0, 0)) (by exact bk BK671.out) NB671_0.out (by simp)); have n1_ := Aside0.mk (KeepBut.trans (by exact kw HK.out) hk (.inl rfl)); have n2_ := Aside0.mk (hb); have n3_ := Aside0.mk (hi); clear BK671; clear HK; clear HB; clear HI0; have BK671 := n0_; have HK := n1_; have HB := n2_; have HI0 := n3_; clear n0_ n1_ n2_ n3_; (try clear hb); (try clear hb2); (try clear hk); (try clear hi); have hnb14 := NB671_0.out; have hnc14 := NB0_671.out; have hcz15_0 : w13.cell? ⟨gb671, 0, none⟩ = some (.int .i64 0) := (blk_cell BK671.out 0).trans rfl; have hcz15_1 : w13.cell? ⟨gb671, 1, none⟩ = some (.int .i64 0) := (blk_cell BK671.out 1).trans rfl; have hcz15_2 : w13.cell? ⟨gb671, 2, none⟩ = some (.string (⟨#[]⟩ : ByteArray)) := (blk_cell BK671.out 2).trans rfl; have hcz15_3 : w13.cell? ⟨gb671, 3, none⟩ = some (.slice none 0 0) := (blk_cell BK671.out 3).trans rfl; have hfz15_0 := blk_frozen BK671.out 0; have hfz15_1 := blk_frozen BK671.out 1; have hfz15_2 := blk_frozen BK671.out 2; have hfz15_3 := blk_frozen BK671.out 3))
   refine bodyPost_ret (results_cell_row rfl _ _ gb671 55 #[.int .i64 3, .int .i64 t674, .string (⟨#[]⟩ : ByteArray), .slice none 0 0] (0, 0) _ rfl (by (with_reducible repeat (first | refine blk_drewN ?_ _ | refine blk_drew ?_ | refine blk_alloc ?_ _)); refine blk_put (cs := #[.int .i64 3, .int .i64 t674, .string (⟨#[]⟩ : ByteArray), .slice none 0 0]) ?_ 3 _ rfl; (with_reducible repeat (first | refine blk_drewN ?_ _ | refine blk_drew ?_ | refine blk_alloc ?_ _)); refine blk_put (cs := #[.int .i64 3, .int .i64 t674, .string (⟨#[]⟩ : ByteArray), .slice none 0 0]) ?_ 2 _ rfl; (with_reducible repeat (first | refine blk_drewN ?_ _ | refine blk_drew ?_ | refine blk_alloc ?_ _)); refine blk_put (cs := #[.int .i64 3, .int .i64 0, .string (⟨#[]⟩ : ByteArray), .slice none 0 0]) ?_ 1 _ rfl; (with_reducible repeat (first | refine blk_drewN ?_ _ | refine blk_drew ?_ | refine blk_alloc ?_ _)); refine blk_put (cs := #[.int .i64 0, .int .i64 0, .string (⟨#[]⟩ : ByteArray), .slice none 0 0]) ?_ 0 _ rfl; exact bk BK671.out) Try.underlying55 rfl (by kernel_rfl)) rfl ?_
   exact ⟨_, by first | rfl | (simp [errW_none, errW_some] <;> rfl) | (simp [*, errW_none, errW_some] <;> rfl), by first | exact Kd.R_nil _ _ _ _ _ | exact Kd.N_nil _ _ _ _ _ | exact Kd.V_nil _ _ _ _ _ | exact Kd.Q_nil _ _ _ _ _ | exact Kd.S_nil _ _ _ _ _, by exact sw105 HI0.out, by exact bw HB.out, by exact kw HK.out⟩
  ·
   rw [if_neg c9] at H
   have c9b0 : (t672 == 1) = false := beq_eq_false_iff_ne.mpr c9
   have c9b1 : (t672 != 1) = true := bne_iff_ne.mpr c9
   by_cases c16 : t672 = 2
   ·
    rw [if_pos c16] at H
    have c16b0 : (t672 == 2) = true := beq_iff_eq.mpr c16
    have c16b1 : (t672 != 2) = false := bne_eq_false_iff_eq.mpr c16
    clear c16
    obtain ⟨y676, hy676⟩ : ∃ y_ : List ByteArray, y_ = (([(⟨#[111, 119, 110, 101, 114]⟩ : ByteArray), (⟨#[98, 111, 115, 115]⟩ : ByteArray)] : List ByteArray)) := ⟨_, rfl⟩
    replace H : ((spec_l20Rd_pick.f k s0_0 t673 2).bind fun bt679 => (if 0 ≤ bt679.1 then (if bt679.1 < (y676.length : Int) then (some (7, 0, rdOf ByteArray.empty y676 bt679.1, ([] : List (S55)), bt679.2)) else (none)) else (none))) = some (r1, r2, r3, r4, r5) := by first | (rw [hy676]; with_reducible exact H) | (have H2_ := (Option.bind_some _ _).symm.trans H; rw [hy676]; with_reducible exact H2_) | (have H2_ := (Option.bind_some _ _).symm.trans H; with_reducible exact H2_) | with_reducible exact H | (rw [hy676]; exact H) | exact H
    have Ny676 := Aside0.mk hy676
    clear hy676
    replace H := Option.bind_eq_some_iff.mp H
    obtain ⟨⟨t679, t680⟩, A170, H⟩ := H
    replace H : (if 0 ≤ t679 then (if t679 < (y676.length : Int) then (some (7, 0, rdOf ByteArray.empty y676 t679, ([] : List (S55)), t680)) else (none)) else (none)) = some (r1, r2, r3, r4, r5) := H
    have A17 := Aside0.mk A170
    clear A170
    by_cases c18 : 0 ≤ t679
    ·
     rw [if_pos c18] at H
     have c18b0 : decide (0 ≤ t679) = true := decide_eq_true c18
     clear c18
     by_cases c19 : t679 < (y676.length : Int)
     ·
      rw [if_pos c19] at H
      have c19b0 : decide (t679 < (y676.length : Int)) = true := decide_eq_true c19
      clear c19
      simp only [Option.some.injEq, Prod.mk.injEq] at H
      obtain ⟨rfl, rfl, rfl, rfl, rfl⟩ := H
      go_enter Try.func87, Try.ntmps87
      go_wp2_with (first | ((with_reducible refine gate_dst (N := 4) rfl ?_); refine box_event ?hg (N := 4) ?hd (cs := #[.int .i64 0, .int .i64 0, .string (⟨#[]⟩ : ByteArray), .slice none 0 0]) (t := 55) ?hr ?_; (case hd => rfl); (case hg => rfl); (case hr => first | (go_simp; done) | (go_simp; rfl)); intro gb671 hg w20 hbox hb; have n0_ := Aside0.mk (IsS105.below (by exact sw105 HI0.out) hb); have n1_ := Aside0.mk (KeepBut.trans (by exact kw HK.out) (KeepBut.of_below hb g none) (.inl rfl)); have n2_ := Aside0.mk (below_step (by exact bw HB.out) hb); have n3_ := Aside0.mk (hbox); have n4_ := Aside0.mk ((by rw [hg]; exact (keep_size (w := w) (g := g) (row := none) (by exact kw HK.out)) : w.heap.size ≤ gb671)); have n5_ := Aside0.mk ((Nat.le_trans HW0.out (by rw [hg]; exact (keep_size (w := w) (g := g) (row := none) (by exact kw HK.out)) : w.heap.size ≤ gb671) : w0.heap.size ≤ gb671)); have n6_ := Aside0.mk ((by rw [hg]; exact Nat.ne_of_lt (IsS105.lt (show IsS105 w0 _ g s0_0 s0_1 from by exact sw105 HI0.out)) : g ≠ gb671)); have n7_ := Aside0.mk ((by rw [hg]; exact Nat.ne_of_gt (IsS105.lt (show IsS105 w0 _ g s0_0 s0_1 from by exact sw105 HI0.out)) : gb671 ≠ g)); clear HI0; clear HK; clear HB; have HI0 := n0_; have HK := n1_; have HB := n2_; have BK671 := n3_; have GW671 := n4_; have GE671 := n5_; have NB0_671 := n6_; have NB671_0 := n7_; clear n0_ n1_ n2_ n3_ n4_ n5_ n6_ n7_; clear hb hbox hg) | ((with_reducible refine gate_callee (f := 62) rfl ?_); refine gl (some 6) Try.func62 #[.pointer (some ⟨g, 0, none⟩), .int .i64 5] ?_; (with_reducible refine (spec_l20Rd_pick.calls k g s0_0 s0_1 5 t672 t673 w0 _ ?side1 ?side2 A3.out).mono ?_); (case side1 => exact sw105 HI0.out); (case side2 => exact bw HB.out); rintro e w21 ⟨rfl, hi, hb, hk⟩; refine ⟨_, rfl, ?_⟩; have n0_ := Aside0.mk (KeepBut.blk hk (g' := gb671) (o := .cells #[.int .i64 0, .int .i64 0, .string (⟨#[]⟩ : ByteArray), .slice none 0 0] 55 (0, 0)) (by exact bk BK671.out) NB671_0.out (by simp)); have n1_ := Aside0.mk (KeepBut.trans (by exact kw HK.out) hk (.inl rfl)); have n2_ := Aside0.mk (hb); have n3_ := Aside0.mk (hi); clear BK671; clear HK; clear HB; clear HI0; have BK671 := n0_; have HK := n1_; have HB := n2_; have HI0 := n3_; clear n0_ n1_ n2_ n3_; (try clear hb); (try clear hb2); (try clear hk); (try clear hi)) | ((with_reducible refine gate_dst (N := 17) rfl ?_); refine Kd.R_lit Kd.string _ 9 ?hg (N := 17) ?hd (xs := ([(⟨#[111, 119, 110, 101, 114]⟩ : ByteArray), (⟨#[98, 111, 115, 115]⟩ : ByteArray)] : List ByteArray)) (inner := [.string (⟨#[111, 119, 110, 101, 114]⟩ : ByteArray), .string (⟨#[98, 111, 115, 115]⟩ : ByteArray)]) (ok := fun _ => True) (okp := fun _ => True) ?hr ?hp (fun _ hk => hk) trivial (Below.refl _ _) (Nat.le_refl _) (by simp) ?_; (case hd => rfl); (case hg => rfl); (case hr => first | (go_simp; done) | (go_simp; rfl)); (case hp => exact (Reps.one (show Kd.M Kd.string _ _ _ (⟨#[111, 119, 110, 101, 114]⟩ : ByteArray) [.string (⟨#[111, 119, 110, 101, 114]⟩ : ByteArray)] from rfl) (Reps.one (show Kd.M Kd.string _ _ _ (⟨#[98, 111, 115, 115]⟩ : ByteArray) [.string (⟨#[98, 111, 115, 115]⟩ : ByteArray)] from rfl) (Reps.none _ _)))); intro v677 w22 ho23 hb hg_ hnew_; clear hg_ hnew_; (first | rw [← Ny676.out] at ho23 | (simp only [Int.reduceToNat] at ho23; rw [← Ny676.out] at ho23)); have n0_ := Aside0.mk (Kd.R_lower (Kd.R_newM (M := fun k_ => (w.heap.size ≤ k_)) ho23 (keep_size (w := w) (g := g) (row := none) (by exact kw HK.out)) (fun k_ h_ => h_)) (keep_size (w := w) (g := g) (row := none) (by exact kw HK.out))); have n1_ := Aside0.mk (IsS105.below (by exact sw105 HI0.out) hb); have n2_ := Aside0.mk (blk_below (g := gb671) (o := .cells #[.int .i64 0, .int .i64 0, .string (⟨#[]⟩ : ByteArray), .slice none 0 0] 55 (0, 0)) (by exact bk BK671.out) hb); have n3_ := Aside0.mk (KeepBut.trans (by exact kw HK.out) (KeepBut.of_below hb g none) (.inl rfl)); have n4_ := Aside0.mk (below_step (by exact bw HB.out) hb); clear HI0; clear BK671; clear HK; clear HB; have HO678 := n0_; have HI0 := n1_; have BK671 := n2_; have HK := n3_; have HB := n4_; clear n0_ n1_ n2_ n3_ n4_; clear hb ho23) | ((with_reducible refine gate_callee (f := 62) rfl ?_); refine gl (some 19) Try.func62 #[.pointer (some ⟨g, 0, none⟩), .int .i64 2] ?_; (with_reducible refine (spec_l20Rd_pick.calls k g s0_0 t673 2 t679 t680 w0 _ ?side1 ?side2 A17.out).mono ?_); (case side1 => exact sw105 HI0.out); (case side2 => exact bw HB.out); rintro e w24 ⟨rfl, hi, hb, hk⟩; refine ⟨_, rfl, ?_⟩; have n0_ := Aside0.mk (KeepBut.blk hk (g' := gb671) (o := .cells #[.int .i64 0, .int .i64 0, .string (⟨#[]⟩ : ByteArray), .slice none 0 0] 55 (0, 0)) (by exact bk BK671.out) NB671_0.out (by simp)); have n1_ := Aside0.mk (Kd.R_mono (Kd.R_keep (IsS105.apart (show IsS105 w0 _ g s0_0 t673 from by exact sw105 HI0.out) (by exact Kd.xR HO678.out) (by decide)) hk (fun _ h => h.2)) (fun _ h => h.1)); have n2_ := Aside0.mk (KeepBut.trans (by exact kw HK.out) hk (.inl rfl)); have n3_ := Aside0.mk (hb); have n4_ := Aside0.mk (hi); clear BK671; clear HO678; clear HK; clear HB; clear HI0; have BK671 := n0_; have HO678 := n1_; have HK := n2_; have HB := n3_; have HI0 := n4_; clear n0_ n1_ n2_ n3_ n4_; (try clear hb); (try clear hb2); (try clear hk); (try clear hi); obtain ⟨Ao25, co25, eo25⟩ := Kd.R_slice HO678.out; subst eo25; have p681 : 0 ≤ (t679 : Int) := of_decide_eq_true (by first | (with_reducible assumption) | assumption); have q681 : t679 < (y676.length : Int) := of_decide_eq_true (by first | (with_reducible assumption) | assumption); obtain ⟨ad681, e681, hx681_0⟩ := Kd.at_string (Kd.R_reads' HO678.out).2.2 t679 p681 q681; cases e681; replace p681 := eq_true p681; replace q681 := eq_true q681; have hnb26 := NB671_0.out; have hnc26 := NB0_671.out; have hcz27_0 : w24.cell? ⟨gb671, 0, none⟩ = some (.int .i64 0) := (blk_cell BK671.out 0).trans rfl; have hcz27_1 : w24.cell? ⟨gb671, 1, none⟩ = some (.int .i64 0) := (blk_cell BK671.out 1).trans rfl; have hcz27_2 : w24.cell? ⟨gb671, 2, none⟩ = some (.string (⟨#[]⟩ : ByteArray)) := (blk_cell BK671.out 2).trans rfl; have hcz27_3 : w24.cell? ⟨gb671, 3, none⟩ = some (.slice none 0 0) := (blk_cell BK671.out 3).trans rfl; have hfz27_0 := blk_frozen BK671.out 0; have hfz27_1 := blk_frozen BK671.out 1; have hfz27_2 := blk_frozen BK671.out 2; have hfz27_3 := blk_frozen BK671.out 3))
      refine bodyPost_ret (results_cell_row rfl _ _ gb671 55 #[.int .i64 7, .int .i64 0, .string (rdOf ByteArray.empty y676 t679), .slice none 0 0] (0, 0) _ rfl (by (with_reducible repeat (first | refine blk_drewN ?_ _ | refine blk_drew ?_ | refine blk_alloc ?_ _)); refine blk_put (cs := #[.int .i64 7, .int .i64 0, .string (rdOf ByteArray.empty y676 t679), .slice none 0 0]) ?_ 3 _ rfl; (with_reducible repeat (first | refine blk_drewN ?_ _ | refine blk_drew ?_ | refine blk_alloc ?_ _)); refine blk_put (cs := #[.int .i64 7, .int .i64 0, .string (⟨#[]⟩ : ByteArray), .slice none 0 0]) ?_ 2 _ rfl; (with_reducible repeat (first | refine blk_drewN ?_ _ | refine blk_drew ?_ | refine blk_alloc ?_ _)); refine blk_put (cs := #[.int .i64 7, .int .i64 0, .string (⟨#[]⟩ : ByteArray), .slice none 0 0]) ?_ 1 _ rfl; (with_reducible repeat (first | refine blk_drewN ?_ _ | refine blk_drew ?_ | refine blk_alloc ?_ _)); refine blk_put (cs := #[.int .i64 0, .int .i64 0, .string (⟨#[]⟩ : ByteArray), .slice none 0 0]) ?_ 0 _ rfl; exact bk BK671.out) Try.underlying55 rfl (by kernel_rfl)) rfl ?_
      exact ⟨_, by first | rfl | (simp [errW_none, errW_some] <;> rfl) | (simp [*, errW_none, errW_some] <;> rfl), by first | exact Kd.R_nil _ _ _ _ _ | exact Kd.N_nil _ _ _ _ _ | exact Kd.V_nil _ _ _ _ _ | exact Kd.Q_nil _ _ _ _ _ | exact Kd.S_nil _ _ _ _ _, by exact sw105 HI0.out, by exact bw HB.out, by exact kw HK.out⟩
     ·
      rw [if_neg c19] at H
      exact absurd H (by simp)
    ·
     rw [if_neg c18] at H
     exact absurd H (by simp)
   ·
    rw [if_neg c16] at H
    have c16b0 : (t672 == 2) = false := beq_eq_false_iff_ne.mpr c16
    have c16b1 : (t672 != 2) = true := bne_iff_ne.mpr c16
    by_cases c28 : t672 = 3
    ·
     rw [if_pos c28] at H
     have c28b0 : (t672 == 3) = true := beq_iff_eq.mpr c28
     have c28b1 : (t672 != 3) = false := bne_eq_false_iff_eq.mpr c28
     clear c28
     by_cases c29 : a1 > 0
     ·
      rw [if_pos c29] at H
      have c29b0 : decide (0 < a1) = true := decide_eq_true c29
      clear c29
      obtain ⟨y682, hy682⟩ : ∃ y_ : List ByteArray, y_ = (([(⟨#[111, 119, 110, 101, 114]⟩ : ByteArray), (⟨#[98, 111, 115, 115]⟩ : ByteArray)] : List ByteArray)) := ⟨_, rfl⟩
      replace H : ((spec_l20Rd_pick.f k s0_0 t673 2).bind fun bt685 => (if 0 ≤ bt685.1 then (if bt685.1 < (y682.length : Int) then ((spec_l20Thing.f k s0_0 bt685.2 (wrap64 (a1 - 1))).bind fun bt688 => (some (8, 0, rdOf ByteArray.empty y682 bt685.1, (([(⟨bt688.1, bt688.2.1, bt688.2.2.1, bt688.2.2.2.1⟩ : S55)] : List (S55))), bt688.2.2.2.2))) else (none)) else (none))) = some (r1, r2, r3, r4, r5) := by first | (rw [hy682]; with_reducible exact H) | (have H2_ := (Option.bind_some _ _).symm.trans H; rw [hy682]; with_reducible exact H2_) | (have H2_ := (Option.bind_some _ _).symm.trans H; with_reducible exact H2_) | with_reducible exact H | (rw [hy682]; exact H) | exact H
      have Ny682 := Aside0.mk hy682
      clear hy682
      replace H := Option.bind_eq_some_iff.mp H
      obtain ⟨⟨t685, t686⟩, A300, H⟩ := H
      replace H : (if 0 ≤ t685 then (if t685 < (y682.length : Int) then ((spec_l20Thing.f k s0_0 t686 (wrap64 (a1 - 1))).bind fun bt688 => (some (8, 0, rdOf ByteArray.empty y682 t685, (([(⟨bt688.1, bt688.2.1, bt688.2.2.1, bt688.2.2.2.1⟩ : S55)] : List (S55))), bt688.2.2.2.2))) else (none)) else (none)) = some (r1, r2, r3, r4, r5) := H
      have A30 := Aside0.mk A300
      clear A300
      by_cases c31 : 0 ≤ t685
      ·
       rw [if_pos c31] at H
       have c31b0 : decide (0 ≤ t685) = true := decide_eq_true c31
       clear c31
       by_cases c32 : t685 < (y682.length : Int)
       ·
        rw [if_pos c32] at H
        have c32b0 : decide (t685 < (y682.length : Int)) = true := decide_eq_true c32
        clear c32
        replace H := Option.bind_eq_some_iff.mp H
        obtain ⟨⟨t688, t689, t690, t691, t694⟩, A330, H⟩ := H
        replace H : (some (8, 0, rdOf ByteArray.empty y682 t685, (([(⟨t688, t689, t690, t691⟩ : S55)] : List (S55))), t694)) = some (r1, r2, r3, r4, r5) := H
        have A33 := Aside0.mk A330
        clear A330
        obtain ⟨y695, hy695⟩ : ∃ y_ : List (S55), y_ = (([(⟨t688, t689, t690, t691⟩ : S55)] : List (S55))) := ⟨_, rfl⟩
        replace H : (some (8, 0, rdOf ByteArray.empty y682 t685, y695, t694)) = some (r1, r2, r3, r4, r5) := by first | (rw [hy695]; with_reducible exact H) | (have H2_ := (Option.bind_some _ _).symm.trans H; rw [hy695]; with_reducible exact H2_) | (have H2_ := (Option.bind_some _ _).symm.trans H; with_reducible exact H2_) | with_reducible exact H | (rw [hy695]; exact H) | exact H
        have Ny695 := Aside0.mk hy695
        clear hy695
        simp only [Option.some.injEq, Prod.mk.injEq] at H
        obtain ⟨rfl, rfl, rfl, rfl, rfl⟩ := H
        go_enter Try.func87, Try.ntmps87
        try go_wp2_with (first | ((with_reducible refine gate_dst (N := 4) rfl ?_); refine box_event ?hg (N := 4) ?hd (cs := #[.int .i64 0, .int .i64 0, .string (⟨#[]⟩ : ByteArray), .slice none 0 0]) (t := 55) ?hr ?_; (case hd => rfl); (case hg => rfl); (case hr => first | (go_simp; done) | (go_simp; rfl)); intro gb671 hg w34 hbox hb; have n0_ := Aside0.mk (IsS105.below (by exact sw105 HI0.out) hb); have n1_ := Aside0.mk (KeepBut.trans (by exact kw HK.out) (KeepBut.of_below hb g none) (.inl rfl)); have n2_ := Aside0.mk (below_step (by exact bw HB.out) hb); have n3_ := Aside0.mk (hbox); have n4_ := Aside0.mk ((by rw [hg]; exact (keep_size (w := w) (g := g) (row := none) (by exact kw HK.out)) : w.heap.size ≤ gb671)); have n5_ := Aside0.mk ((Nat.le_trans HW0.out (by rw [hg]; exact (keep_size (w := w) (g := g) (row := none) (by exact kw HK.out)) : w.heap.size ≤ gb671) : w0.heap.size ≤ gb671)); have n6_ := Aside0.mk ((by rw [hg]; exact Nat.ne_of_lt (IsS105.lt (show IsS105 w0 _ g s0_0 s0_1 from by exact sw105 HI0.out)) : g ≠ gb671)); have n7_ := Aside0.mk ((by rw [hg]; exact Nat.ne_of_gt (IsS105.lt (show IsS105 w0 _ g s0_0 s0_1 from by exact sw105 HI0.out)) : gb671 ≠ g)); clear HI0; clear HK; clear HB; have HI0 := n0_; have HK := n1_; have HB := n2_; have BK671 := n3_; have GW671 := n4_; have GE671 := n5_; have NB0_671 := n6_; have NB671_0 := n7_; clear n0_ n1_ n2_ n3_ n4_ n5_ n6_ n7_; clear hb hbox hg) | ((with_reducible refine gate_callee (f := 62) rfl ?_); refine gl (some 6) Try.func62 #[.pointer (some ⟨g, 0, none⟩), .int .i64 5] ?_; (with_reducible refine (spec_l20Rd_pick.calls k g s0_0 s0_1 5 t672 t673 w0 _ ?side1 ?side2 A3.out).mono ?_); (case side1 => exact sw105 HI0.out); (case side2 => exact bw HB.out); rintro e w35 ⟨rfl, hi, hb, hk⟩; refine ⟨_, rfl, ?_⟩; have n0_ := Aside0.mk (KeepBut.blk hk (g' := gb671) (o := .cells #[.int .i64 0, .int .i64 0, .string (⟨#[]⟩ : ByteArray), .slice none 0 0] 55 (0, 0)) (by exact bk BK671.out) NB671_0.out (by simp)); have n1_ := Aside0.mk (KeepBut.trans (by exact kw HK.out) hk (.inl rfl)); have n2_ := Aside0.mk (hb); have n3_ := Aside0.mk (hi); clear BK671; clear HK; clear HB; clear HI0; have BK671 := n0_; have HK := n1_; have HB := n2_; have HI0 := n3_; clear n0_ n1_ n2_ n3_; (try clear hb); (try clear hb2); (try clear hk); (try clear hi)))
        have pi687 : (0 ≤ (t685 : Int)) = True := eq_true (of_decide_eq_true (by first | (with_reducible assumption) | assumption))
        have qi687 : (t685 < (y682.length : Int)) = True := eq_true (of_decide_eq_true (by first | (with_reducible assumption) | assumption))
        have n0_ := Aside0.mk (blk_drew BK671.out)
        have n1_ := Aside0.mk (IsS105.drew HI0.out)
        have n2_ := Aside0.mk (keep_drew HK.out)
        have n3_ := Aside0.mk (below_drew1 HB.out)
        clear BK671
        clear HI0
        clear HK
        clear HB
        have BK671 := n0_
        have HI0 := n1_
        have HK := n2_
        have HB := n3_
        clear n0_ n1_ n2_ n3_
        refine start_ (n := 12) (S := fun w' => True) (ds := []) spec_l20Thing.m0 (by kernel_rfl) rfl rfl trivial (fun hHeld => ?_); refine with_tabW spec_l20Thing.tab10 spec_l20Thing.bits10 (fun HT_ HW_ => ?_)
        generalize w35.drew = w36 at BK671 HI0 HK HB hHeld ⊢
        refine pure_ (i := 1) (N := some 28) (v := ?_) (a' := ?_) spec_l20Thing.m1 rfl rfl (any_of HT_.out (by kernel_rfl)) (fun _ _ _ h => h) (Or.inl ⟨by rfl, ?_⟩) ?_ ?_
        rotate_left
        ·
         intro w'
         go_simp
         with_reducible rfl
        rotate_left
        ·
         simp only [Act.put, List.setIfInBounds_toArray, List.set_cons_zero, List.set_cons_succ, i64_w, i32_w]
         rfl
        refine pure_ (i := 5) (N := some 32) (v := ?_) (a' := ?_) spec_l20Thing.m2 rfl rfl (any_of HT_.out (by kernel_rfl)) (fun _ _ _ h => h) (Or.inl ⟨by rfl, ?_⟩) ?_ ?_
        rotate_left
        ·
         intro w'
         go_simp
         with_reducible rfl
        rotate_left
        ·
         simp only [Act.put, List.setIfInBounds_toArray, List.set_cons_zero, List.set_cons_succ, i64_w, i32_w]
         rfl
        refine pure_ (i := 6) (N := some 33) (v := ?_) (a' := ?_) spec_l20Thing.m3 rfl rfl (any_of HT_.out (by kernel_rfl)) (fun _ _ _ h => h) (Or.inl ⟨by rfl, ?_⟩) ?_ ?_
        rotate_left
        ·
         intro w'
         go_simp
         with_reducible rfl
        rotate_left
        ·
         simp only [Act.put, List.setIfInBounds_toArray, List.set_cons_zero, List.set_cons_succ, i64_w, i32_w]
         rfl
        refine inv_at [0, 2, 3, 4, 7, 8, 9, 10, 11] (fun a0_ b a w' => ∃ (v683 : Value) (adz_v683 : Addr) (v692 : Value) (v696 : Value) (m3_ : Value) (m8_ : Value) (m10_ : Value), a = putSel a0_ b [(0, 27, v683), (2, 29, .int .i64 t685), (3, 30, m3_), (4, 31, .string (rdOf ByteArray.empty y682 t685)), (7, 34, .int .i64 (wrap64 (a1 - 1))), (8, 35, m8_), (9, 36, v696), (10, 37, m10_)] ∧ (b 11 = false → w'.heap[gb671]? = some (.cells #[.int .i64 0, .int .i64 0, .string (⟨#[]⟩ : ByteArray), .slice none 0 0] 55 (0, 0))) ∧ (b 2 = false → IsS105 w0 w' g s0_0 t673) ∧ (KeepBut w w' g none) ∧ (Below w0.heap.size w0 w') ∧ (b 0 = true → Kd.R Kd.string 9 w' w.heap.size (fun k_ => (w.heap.size ≤ k_)) v683 y682) ∧ (b 0 = true → ∃ c_, (v683 : Value) = .slice (some adz_v683) y682.length c_) ∧ (b 2 = true → b 8 = false → IsS105 w0 w' g s0_0 t686) ∧ (b 8 = true → b 9 = false → Kd.N k55 55 w' w.heap.size (fun k_ => (w.heap.size ≤ k_) ∧ k_ ≠ g ∧ k_ ≠ gb671) v692 t691) ∧ (b 8 = true → IsS105 w0 w' g s0_0 t694) ∧ (b 9 = true → Kd.N k55 55 w' w.heap.size (fun k_ => (w.heap.size ≤ k_) ∧ k_ ≠ g ∧ k_ ≠ gb671) v696 y695) ∧ (b 11 = true → w'.heap[gb671]? = some (.cells #[.int .i64 8, .int .i64 0, .string (rdOf ByteArray.empty y682 t685), v696] 55 (0, 0))) ∧ (b 3 = true → (m3_ : Value) = .pointer (some (adz_v683.add (t685).toNat))) ∧ (b 8 = true → (m8_ : Value) = .agg #[.int .i64 t688, .int .i64 t689, .string t690, v692]) ∧ (b 10 = true → (m10_ : Value) = .agg #[.int .i64 8, .int .i64 0, .string (rdOf ByteArray.empty y682 t685), v696])) HT_.out HW_.out (by kernel_rfl) (by kernel_rfl) ?_ ?_ ?_
        ·
         exact ⟨.bool false, ⟨0, 0, none⟩, .bool false, .bool false, .bool false, .bool false, .bool false, by simp only [putSel, Bool.false_eq_true, if_false], fun _ => BK671.out, fun _ => HI0.out, HK.out, HB.out, fun h_ => absurd h_ (by decide), fun h_ => absurd h_ (by decide), fun h_ => absurd h_ (by decide), fun h_ => absurd h_ (by decide), fun h_ => absurd h_ (by decide), fun h_ => absurd h_ (by decide), fun h_ => absurd h_ (by decide), fun h_ => absurd h_ (by decide), fun h_ => absurd h_ (by decide), fun h_ => absurd h_ (by decide)⟩
        ·
         skip
         clear BK671 HB HI0 HK
         refine steps_cons ?_ ?_
         ·
          rintro b a w' ⟨v683, adz_v683, v692, v696, m3_, m8_, m10_, ha, Q_BK671, Q_HI0, Q_HK, Q_HB, Q_HO684, Q_HA_HO684, Q_HI0_e2, Q_HO693, Q_HI0_e8, Q_HO697, Q_BK671_e11, Q_X3_, Q_X8_, Q_X10_⟩ hb_ hon hoff
          refine ⟨_, rfl, fun K hK => ?_⟩
          replace ha := Aside0.mk ha
          have BK671 := Aside0.mk (Q_BK671 (hoff 11 (by kernel_rfl)))
          have HK := Aside0.mk Q_HK
          have HB := Aside0.mk Q_HB
          refine Kd.R_lit_step Kd.string _ 9 ?hg (N := 27) ?hd (xs := ([(⟨#[111, 119, 110, 101, 114]⟩ : ByteArray), (⟨#[98, 111, 115, 115]⟩ : ByteArray)] : List ByteArray)) (inner := [.string (⟨#[111, 119, 110, 101, 114]⟩ : ByteArray), .string (⟨#[98, 111, 115, 115]⟩ : ByteArray)]) (ok := fun _ => True) (okp := fun _ => True) ?hr ?hp (fun _ hk => hk) trivial (Below.refl _ _) (Nat.le_refl _) (by simp) ?_; (case hd => rfl); (case hg => rfl); (case hr => first | (go_simp; done) | (go_simp; rfl)); (case hp => exact (Reps.one (show Kd.M Kd.string _ _ _ (⟨#[111, 119, 110, 101, 114]⟩ : ByteArray) [.string (⟨#[111, 119, 110, 101, 114]⟩ : ByteArray)] from rfl) (Reps.one (show Kd.M Kd.string _ _ _ (⟨#[98, 111, 115, 115]⟩ : ByteArray) [.string (⟨#[98, 111, 115, 115]⟩ : ByteArray)] from rfl) (Reps.none _ _))))
          intro v683 w37 ho38 hb hg_ hnew_
          clear hg_ hnew_
          (first | rw [← Ny682.out] at ho38 | (simp only [Int.reduceToNat] at ho38; rw [← Ny682.out] at ho38))
          have n0_ := Aside0.mk (Kd.R_lower (Kd.R_newM (M := fun k_ => (w.heap.size ≤ k_)) ho38 (keep_size (w := w) (g := g) (row := none) (by exact kw HK.out)) (fun k_ h_ => h_)) (keep_size (w := w) (g := g) (row := none) (by exact kw HK.out)))
          have n2_ := Aside0.mk (blk_below (g := gb671) (o := .cells #[.int .i64 0, .int .i64 0, .string (⟨#[]⟩ : ByteArray), .slice none 0 0] 55 (0, 0)) (by exact bk BK671.out) hb)
          have n3_ := Aside0.mk (KeepBut.trans (by exact kw HK.out) (KeepBut.of_below hb g none) (.inl rfl))
          have n4_ := Aside0.mk (below_step (by exact bw HB.out) hb)
          have z_HI0 := fun (h0_ : b 2 = false) => (show IsS105 w0 w37 g s0_0 t673 from by first | exact (IsS105.below (by repeat (first | (with_reducible first | exact (Q_HI0 h0_) | apply IsS105.alloc | apply IsS105.drewN | apply IsS105.drew | apply IsS105.set_1 | refine IsS105.far ?_ NB0_671.out _) | exact (Q_HI0 h0_))) hb))
          have z_HI0_e2 := fun (h0_ : b 2 = true) (h1_ : b 8 = false) => (show IsS105 w0 w37 g s0_0 t686 from by first | exact (IsS105.below (by repeat (first | (with_reducible first | exact (Q_HI0_e2 h0_ h1_) | apply IsS105.alloc | apply IsS105.drewN | apply IsS105.drew | apply IsS105.set_1 | refine IsS105.far ?_ NB0_671.out _) | exact (Q_HI0_e2 h0_ h1_))) hb))
          have z_HO693 := fun (h0_ : b 8 = true) (h1_ : b 9 = false) => (show Kd.N k55 55 w37 w.heap.size (fun k_ => (w.heap.size ≤ k_) ∧ k_ ≠ g ∧ k_ ≠ gb671) v692 t691 from by first | exact (Kd.N_elder' (by (with_reducible repeat (first | apply Kd.N_alloc | apply Kd.N_drewN | apply Kd.N_drew)); exact (Q_HO693 h0_ h1_)) (Kd.R_base ho38) hb) | exact Kd.N_mono (Kd.N_elder' (by (with_reducible repeat (first | apply Kd.N_alloc | apply Kd.N_drewN | apply Kd.N_drew)); exact (Q_HO693 h0_ h1_)) (Kd.R_base ho38) hb) (fun _ h_ => by first | trivial | exact h_ | exact h_.1))
          have z_HI0_e8 := fun (h0_ : b 8 = true) => (show IsS105 w0 w37 g s0_0 t694 from by first | exact (IsS105.below (by repeat (first | (with_reducible first | exact (Q_HI0_e8 h0_) | apply IsS105.alloc | apply IsS105.drewN | apply IsS105.drew | apply IsS105.set_1 | refine IsS105.far ?_ NB0_671.out _) | exact (Q_HI0_e8 h0_))) hb))
          have z_HO697 := fun (h0_ : b 9 = true) => (show Kd.N k55 55 w37 w.heap.size (fun k_ => (w.heap.size ≤ k_) ∧ k_ ≠ g ∧ k_ ≠ gb671) v696 y695 from by first | exact (Kd.N_elder' (by (with_reducible repeat (first | apply Kd.N_alloc | apply Kd.N_drewN | apply Kd.N_drew)); exact (Q_HO697 h0_)) (Kd.R_base ho38) hb) | exact Kd.N_mono (Kd.N_elder' (by (with_reducible repeat (first | apply Kd.N_alloc | apply Kd.N_drewN | apply Kd.N_drew)); exact (Q_HO697 h0_)) (Kd.R_base ho38) hb) (fun _ h_ => by first | trivial | exact h_ | exact h_.1))
          clear BK671
          clear HK
          clear HB
          have HO684 := n0_
          have BK671 := n2_
          have HK := n3_
          have HB := n4_
          clear n0_ n2_ n3_ n4_
          clear hb ho38
          obtain ⟨Ao39, co39, eo39⟩ := Kd.R_slice HO684.out
          subst eo39
          obtain ⟨ado39, fo39, _⟩ := Kd.at_string (Kd.R_reads' HO684.out).2.2 0 (by decide) (by rw [Ny682.out]; simp)
          cases fo39
          refine hK.out _ _ ⟨.slice (some ado39) y682.length co39, ado39, v692, v696, m3_, m8_, m10_, (by rw [ha.out]; exact putSel_upk 0 hb_ rfl rfl rfl), fun _ => (by exact bk BK671.out), z_HI0, (by exact kw HK.out), (by exact bw HB.out), fun _ => (by (with_reducible repeat (first | apply Kd.R_alloc | apply Kd.R_drewN | apply Kd.R_drew)); exact Kd.R_mono HO684.out (fun _ hk => hk.1)), fun _ => ⟨_, rfl⟩, z_HI0_e2, z_HO693, z_HI0_e8, z_HO697, fun h0_ => absurd ((hoff 11 (by kernel_rfl)).symm.trans h0_) (by decide), fun h0_ => absurd ((hoff 3 (by kernel_rfl)).symm.trans h0_) (by decide), Q_X8_, fun h0_ => absurd ((hoff 10 (by kernel_rfl)).symm.trans h0_) (by decide)⟩
         refine steps_cons ?_ ?_
         ·
          rintro b a w' ⟨v683, adz_v683, v692, v696, m3_, m8_, m10_, ha, Q_BK671, Q_HI0, Q_HK, Q_HB, Q_HO684, Q_HA_HO684, Q_HI0_e2, Q_HO693, Q_HI0_e8, Q_HO697, Q_BK671_e11, Q_X3_, Q_X8_, Q_X10_⟩ hb_ hon hoff
          refine ⟨_, rfl, fun K hK => ?_⟩
          have e28 : a.tmps[28]? = some (.pointer (some ⟨g, 0, none⟩)) := by rw [ha]; exact (putSel_off rfl).trans rfl
          replace ha := Aside0.mk ha
          have BK671 := Aside0.mk (Q_BK671 (hoff 11 (by kernel_rfl)))
          have HI0 := Aside0.mk (Q_HI0 hb_)
          have HK := Aside0.mk Q_HK
          have HB := Aside0.mk Q_HB
          refine goes_ Try.func62 (by kernel_rfl) rfl #[.pointer (some ⟨g, 0, none⟩), .int .i64 2] (by rfl) rfl rfl (by first | (simp only [List.map_toArray, List.map_cons, List.map_nil, Act.eval, Array.getD_eq_getD_getElem?, Option.getD_some, e28]; done) | (simp only [List.map_toArray, List.map_cons, List.map_nil, Act.eval, Array.getD_eq_getD_getElem?, Option.getD_some, e28]; rfl)) ?_
          with_reducible refine (spec_l20Rd_pick.calls k g s0_0 t673 2 t685 t686 w0 _ ?side1 ?side2 A30.out).mono ?_
          (case side1 => exact sw105 HI0.out)
          (case side2 => exact bw HB.out)
          rintro e w37 ⟨rfl, hi, hb, hk⟩
          refine ⟨_, rfl, ?_⟩
          have n0_ := Aside0.mk (KeepBut.blk hk (g' := gb671) (o := .cells #[.int .i64 0, .int .i64 0, .string (⟨#[]⟩ : ByteArray), .slice none 0 0] 55 (0, 0)) (by exact bk BK671.out) NB671_0.out (by simp))
          have n1_ := Aside0.mk (KeepBut.trans (by exact kw HK.out) hk (.inl rfl))
          have n2_ := Aside0.mk (hb)
          have n3_ := Aside0.mk (hi)
          have z_HO684 := fun (h0_ : b 0 = true) => (show Kd.R Kd.string 9 w37 w.heap.size (fun k_ => (w.heap.size ≤ k_)) v683 y682 from by first | exact (Kd.R_mono (Kd.R_keep (IsS105.apart (show IsS105 w0 _ g s0_0 t673 from by exact sw105 HI0.out) (by (with_reducible repeat (first | apply Kd.R_alloc | apply Kd.R_drewN | apply Kd.R_drew)); exact (Q_HO684 h0_)) (by decide)) hk (fun _ h => h.2)) (fun _ h => h.1)) | exact Kd.R_mono (Kd.R_mono (Kd.R_keep (IsS105.apart (show IsS105 w0 _ g s0_0 t673 from by exact sw105 HI0.out) (by (with_reducible repeat (first | apply Kd.R_alloc | apply Kd.R_drewN | apply Kd.R_drew)); exact (Q_HO684 h0_)) (by decide)) hk (fun _ h => h.2)) (fun _ h => h.1)) (fun _ h_ => by first | trivial | exact h_ | exact h_.1))
          clear BK671
          clear HK
          clear HB
          clear HI0
          have BK671 := n0_
          have HK := n1_
          have HB := n2_
          have HI0 := n3_
          clear n0_ n1_ n2_ n3_
          (try clear hb)
          (try clear hb2)
          (try clear hk)
          (try clear hi)
          refine hK.out _ _ ⟨v683, adz_v683, v692, v696, m3_, m8_, m10_, (by rw [ha.out]; exact putSel_upk 1 hb_ rfl rfl rfl), fun _ => (by exact bk BK671.out), fun h0_ => absurd ((up_self b 2).symm.trans h0_) (by decide), (by exact kw HK.out), (by exact bw HB.out), z_HO684, Q_HA_HO684, fun _ _ => (by exact sw105 HI0.out), fun h0_ _ => absurd ((hoff 8 (by kernel_rfl)).symm.trans h0_) (by decide), fun h0_ => absurd ((hoff 8 (by kernel_rfl)).symm.trans h0_) (by decide), fun h0_ => absurd ((hoff 9 (by kernel_rfl)).symm.trans h0_) (by decide), fun h0_ => absurd ((hoff 11 (by kernel_rfl)).symm.trans h0_) (by decide), fun h0_ => absurd ((hoff 3 (by kernel_rfl)).symm.trans h0_) (by decide), fun h0_ => absurd ((hoff 8 (by kernel_rfl)).symm.trans h0_) (by decide), fun h0_ => absurd ((hoff 10 (by kernel_rfl)).symm.trans h0_) (by decide)⟩
         refine steps_cons ?_ ?_
         ·
          rintro b a w' ⟨v683, adz_v683, v692, v696, m3_, m8_, m10_, ha, Q_BK671, Q_HI0, Q_HK, Q_HB, Q_HO684, Q_HA_HO684, Q_HI0_e2, Q_HO693, Q_HI0_e8, Q_HO697, Q_BK671_e11, Q_X3_, Q_X8_, Q_X10_⟩ hb_ hon hoff
          refine ⟨_, rfl, fun K hK => ?_⟩
          have e27 : a.tmps[27]? = some (v683) := by rw [ha]; exact putSel_on (e := (0, 27, v683)) 0 rfl rfl (hon 0 (by kernel_rfl)) rfl
          have e29 : a.tmps[29]? = some (.int .i64 t685) := by rw [ha]; exact putSel_on (e := (2, 29, .int .i64 t685)) 1 rfl rfl (hon 2 (by kernel_rfl)) rfl
          replace ha := Aside0.mk ha
          have BK671 := Aside0.mk (Q_BK671 (hoff 11 (by kernel_rfl)))
          have HK := Aside0.mk Q_HK
          have HB := Aside0.mk Q_HB
          have HO684 := Aside0.mk (Q_HO684 (hon 0 (by kernel_rfl)))
          have HA_HO684 := Aside0.mk (Q_HA_HO684 (hon 0 (by kernel_rfl)))
          obtain ⟨c_, hv_⟩ := HA_HO684.out
          rw [hv_] at e27
          refine value_ (w1 := w') (v := .pointer (some (adz_v683.add (t685).toNat))) (by rfl) rfl ?_ ?_
          ·
           go_simp
           (try simp only [i64_w])
           try rfl
          refine hK.out _ _ ⟨v683, adz_v683, v692, v696, (.pointer (some (adz_v683.add (t685).toNat))), m8_, m10_, (by rw [ha.out]; exact putSel_upk 2 hb_ rfl rfl rfl), Q_BK671, fun h0_ => absurd ((hon 2 (by kernel_rfl)).symm.trans h0_) (by decide), Q_HK, Q_HB, Q_HO684, Q_HA_HO684, Q_HI0_e2, Q_HO693, Q_HI0_e8, Q_HO697, fun h0_ => absurd ((hoff 11 (by kernel_rfl)).symm.trans h0_) (by decide), fun _ => rfl, Q_X8_, fun h0_ => absurd ((hoff 10 (by kernel_rfl)).symm.trans h0_) (by decide)⟩
         refine steps_cons ?_ ?_
         ·
          rintro b a w' ⟨v683, adz_v683, v692, v696, m3_, m8_, m10_, ha, Q_BK671, Q_HI0, Q_HK, Q_HB, Q_HO684, Q_HA_HO684, Q_HI0_e2, Q_HO693, Q_HI0_e8, Q_HO697, Q_BK671_e11, Q_X3_, Q_X8_, Q_X10_⟩ hb_ hon hoff
          refine ⟨_, rfl, fun K hK => ?_⟩
          have e30 : a.tmps[30]? = some (m3_) := by rw [ha]; exact putSel_on (e := (3, 30, m3_)) 2 rfl rfl (hon 3 (by kernel_rfl)) rfl
          rw [Q_X3_ (hon 3 (by kernel_rfl))] at e30
          replace ha := Aside0.mk ha
          have BK671 := Aside0.mk (Q_BK671 (hoff 11 (by kernel_rfl)))
          have HK := Aside0.mk Q_HK
          have HB := Aside0.mk Q_HB
          have HO684 := Aside0.mk (Q_HO684 (hon 0 (by kernel_rfl)))
          have HA_HO684 := Aside0.mk (Q_HA_HO684 (hon 0 (by kernel_rfl)))
          obtain ⟨c_, hv_⟩ := HA_HO684.out
          have hF_ := HO684.out
          rw [hv_] at hF_
          obtain ⟨ad_, ea_, hx_⟩ := Kd.at_string (Kd.R_reads' hF_).2.2 t685 (of_eq_true pi687) (of_eq_true qi687)
          cases ea_
          refine value_ (w1 := w') (v := .string (rdOf ByteArray.empty y682 t685)) (by rfl) rfl ?_ ?_
          ·
           go_simp
           (try simp only [i64_w])
           try rfl
          refine hK.out _ _ ⟨v683, adz_v683, v692, v696, m3_, m8_, m10_, (by rw [ha.out]; exact putSel_upk 3 hb_ rfl rfl rfl), Q_BK671, fun h0_ => absurd ((hon 2 (by kernel_rfl)).symm.trans h0_) (by decide), Q_HK, Q_HB, Q_HO684, Q_HA_HO684, Q_HI0_e2, Q_HO693, Q_HI0_e8, Q_HO697, fun h0_ => absurd ((hoff 11 (by kernel_rfl)).symm.trans h0_) (by decide), Q_X3_, Q_X8_, fun h0_ => absurd ((hoff 10 (by kernel_rfl)).symm.trans h0_) (by decide)⟩
         refine steps_cons ?_ ?_
         ·
          rintro b a w' ⟨v683, adz_v683, v692, v696, m3_, m8_, m10_, ha, Q_BK671, Q_HI0, Q_HK, Q_HB, Q_HO684, Q_HA_HO684, Q_HI0_e2, Q_HO693, Q_HI0_e8, Q_HO697, Q_BK671_e11, Q_X3_, Q_X8_, Q_X10_⟩ hb_ hon hoff
          refine ⟨_, rfl, fun K hK => ?_⟩
          have e33 : a.tmps[33]? = some (.int .i64 a1) := by rw [ha]; exact (putSel_off rfl).trans rfl
          replace ha := Aside0.mk ha
          have BK671 := Aside0.mk (Q_BK671 (hoff 11 (by kernel_rfl)))
          have HK := Aside0.mk Q_HK
          have HB := Aside0.mk Q_HB
          refine value_ (w1 := w') (v := .int .i64 (wrap64 (a1 - 1))) (by rfl) rfl ?_ ?_
          ·
           go_simp
           (try simp only [i64_w])
           try rfl
          refine hK.out _ _ ⟨v683, adz_v683, v692, v696, m3_, m8_, m10_, (by rw [ha.out]; exact putSel_upk 4 hb_ rfl rfl rfl), Q_BK671, Q_HI0, Q_HK, Q_HB, Q_HO684, Q_HA_HO684, Q_HI0_e2, fun h0_ _ => absurd ((hoff 8 (by kernel_rfl)).symm.trans h0_) (by decide), fun h0_ => absurd ((hoff 8 (by kernel_rfl)).symm.trans h0_) (by decide), fun h0_ => absurd ((hoff 9 (by kernel_rfl)).symm.trans h0_) (by decide), fun h0_ => absurd ((hoff 11 (by kernel_rfl)).symm.trans h0_) (by decide), Q_X3_, fun h0_ => absurd ((hoff 8 (by kernel_rfl)).symm.trans h0_) (by decide), fun h0_ => absurd ((hoff 10 (by kernel_rfl)).symm.trans h0_) (by decide)⟩
         refine steps_cons ?_ ?_
         ·
          rintro b a w' ⟨v683, adz_v683, v692, v696, m3_, m8_, m10_, ha, Q_BK671, Q_HI0, Q_HK, Q_HB, Q_HO684, Q_HA_HO684, Q_HI0_e2, Q_HO693, Q_HI0_e8, Q_HO697, Q_BK671_e11, Q_X3_, Q_X8_, Q_X10_⟩ hb_ hon hoff
          refine ⟨_, rfl, fun K hK => ?_⟩
          have e32 : a.tmps[32]? = some (.pointer (some ⟨g, 0, none⟩)) := by rw [ha]; exact (putSel_off rfl).trans rfl
          have e34 : a.tmps[34]? = some (.int .i64 (wrap64 (a1 - 1))) := by rw [ha]; exact putSel_on (e := (7, 34, .int .i64 (wrap64 (a1 - 1)))) 4 rfl rfl (hon 7 (by kernel_rfl)) rfl
          replace ha := Aside0.mk ha
          have BK671 := Aside0.mk (Q_BK671 (hoff 11 (by kernel_rfl)))
          have HK := Aside0.mk Q_HK
          have HB := Aside0.mk Q_HB
          have HI0 := Aside0.mk (Q_HI0_e2 (hon 2 (by kernel_rfl)) hb_)
          refine goes_ Try.func87 (by kernel_rfl) rfl #[.pointer (some ⟨g, 0, none⟩), .int .i64 (wrap64 (a1 - 1))] (by rfl) rfl rfl (by first | (simp only [List.map_toArray, List.map_cons, List.map_nil, Act.eval, Array.getD_eq_getD_getElem?, Option.getD_some, e32, e34]; done) | (simp only [List.map_toArray, List.map_cons, List.map_nil, Act.eval, Array.getD_eq_getD_getElem?, Option.getD_some, e32, e34]; rfl)) ?_
          with_reducible refine (ih k (by omega) g s0_0 t686 (wrap64 (a1 - 1)) t688 t689 t690 t691 t694 w0 _ ?side1 ?side2 A33.out).mono ?_
          (case side1 => exact sw105 HI0.out)
          (case side2 => exact bw HB.out)
          rintro e w39 ⟨v692, rfl, ho0, hi, hb, hk⟩
          refine ⟨_, rfl, ?_⟩
          have n0_ := Aside0.mk (KeepBut.blk hk (g' := gb671) (o := .cells #[.int .i64 0, .int .i64 0, .string (⟨#[]⟩ : ByteArray), .slice none 0 0] 55 (0, 0)) (by exact bk BK671.out) NB671_0.out (by simp))
          have n1_ := Aside0.mk (Kd.N_lower (Kd.N_mono (ok' := fun k_ => (w.heap.size ≤ k_) ∧ k_ ≠ gb671 ∧ k_ ≠ g) ho0 (fun k_ hk_ => ⟨(Nat.le_trans (keep_size (w := w) (g := g) (row := none) (by exact kw HK.out)) hk_), (Kd.freshB (g := gb671) (o := .cells #[.int .i64 0, .int .i64 0, .string (⟨#[]⟩ : ByteArray), .slice none 0 0] 55 (0, 0)) (by exact bk BK671.out) k_ hk_), (IsS105.fresh (by exact sw105 HI0.out) k_ hk_)⟩)) (keep_size (w := w) (g := g) (row := none) (by exact kw HK.out)))
          have n2_ := Aside0.mk (KeepBut.trans (by exact kw HK.out) hk (.inl rfl))
          have n3_ := Aside0.mk (hb)
          have n4_ := Aside0.mk (hi)
          have z_HO684 := fun (h0_ : b 0 = true) => (show Kd.R Kd.string 9 w39 w.heap.size (fun k_ => (w.heap.size ≤ k_)) v683 y682 from by first | exact (Kd.R_mono (Kd.R_keep (IsS105.apart (show IsS105 w0 _ g s0_0 t686 from by exact sw105 HI0.out) (by (with_reducible repeat (first | apply Kd.R_alloc | apply Kd.R_drewN | apply Kd.R_drew)); exact (Q_HO684 h0_)) (by decide)) hk (fun _ h => h.2)) (fun _ h => h.1)) | exact Kd.R_mono (Kd.R_mono (Kd.R_keep (IsS105.apart (show IsS105 w0 _ g s0_0 t686 from by exact sw105 HI0.out) (by (with_reducible repeat (first | apply Kd.R_alloc | apply Kd.R_drewN | apply Kd.R_drew)); exact (Q_HO684 h0_)) (by decide)) hk (fun _ h => h.2)) (fun _ h => h.1)) (fun _ h_ => by first | trivial | exact h_ | exact h_.1))
          clear BK671
          clear HK
          clear HB
          clear HI0
          have BK671 := n0_
          have HO693 := n1_
          have HK := n2_
          have HB := n3_
          have HI0 := n4_
          clear n0_ n1_ n2_ n3_ n4_
          (try clear hb)
          (try clear hb2)
          (try clear hk)
          (try clear hi)
          (try clear ho0)
          refine hK.out _ _ ⟨v683, adz_v683, v692, v696, m3_, (.agg #[.int .i64 t688, .int .i64 t689, .string t690, v692]), m10_, (by rw [ha.out]; exact putSel_upk 5 hb_ rfl rfl rfl), fun _ => (by exact bk BK671.out), fun h0_ => absurd ((hon 2 (by kernel_rfl)).symm.trans h0_) (by decide), (by exact kw HK.out), (by exact bw HB.out), z_HO684, Q_HA_HO684, fun _ h1_ => absurd ((up_self b 8).symm.trans h1_) (by decide), fun _ _ => (by (with_reducible repeat (first | apply Kd.N_alloc | apply Kd.N_drewN | apply Kd.N_drew)); exact Kd.N_mono HO693.out (fun _ hk => okp hk)), fun _ => (by exact sw105 HI0.out), fun h0_ => absurd ((hoff 9 (by kernel_rfl)).symm.trans h0_) (by decide), fun h0_ => absurd ((hoff 11 (by kernel_rfl)).symm.trans h0_) (by decide), Q_X3_, fun _ => rfl, fun h0_ => absurd ((hoff 10 (by kernel_rfl)).symm.trans h0_) (by decide)⟩
         refine steps_cons ?_ ?_
         ·
          rintro b a w' ⟨v683, adz_v683, v692, v696, m3_, m8_, m10_, ha, Q_BK671, Q_HI0, Q_HK, Q_HB, Q_HO684, Q_HA_HO684, Q_HI0_e2, Q_HO693, Q_HI0_e8, Q_HO697, Q_BK671_e11, Q_X3_, Q_X8_, Q_X10_⟩ hb_ hon hoff
          refine ⟨_, rfl, fun K hK => ?_⟩
          have e35 : a.tmps[35]? = some (m8_) := by rw [ha]; exact putSel_on (e := (8, 35, m8_)) 5 rfl rfl (hon 8 (by kernel_rfl)) rfl
          rw [Q_X8_ (hon 8 (by kernel_rfl))] at e35
          replace ha := Aside0.mk ha
          have BK671 := Aside0.mk (Q_BK671 (hoff 11 (by kernel_rfl)))
          have HK := Aside0.mk Q_HK
          have HB := Aside0.mk Q_HB
          have HO693 := Aside0.mk (Q_HO693 (hon 8 (by kernel_rfl)) hb_)
          have HI0 := Aside0.mk (Q_HI0_e8 (hon 8 (by kernel_rfl)))
          obtain ⟨Ao40, co40, eo40⟩ := Kd.N_slice HO693.out
          (first | subst eo40 | (injection eo40 with f1_ f2_ f3_; have f4_ := f1_.symm; have f5_ := f3_.symm; clear f1_ f2_ f3_; subst f4_; subst f5_))
          refine Kd.N_lit_step k55 _ 55 ?hg (N' := 36) ?hd (xs := ([(⟨t688, t689, t690, t691⟩ : S55)] : List (S55))) (inner := [.int .i64 t688, .int .i64 t689, .string t690, .slice Ao40 t691.length co40]) (ok := (fun k_ => (w.heap.size ≤ k_) ∧ k_ ≠ gb671 ∧ k_ ≠ g)) (okp := (fun k_ => (w.heap.size ≤ k_) ∧ k_ ≠ gb671 ∧ k_ ≠ g)) ?hr ?hp (fun _ hk => hk) ((show ∀ k_, w'.heap.size ≤ k_ → (fun k_ => (w.heap.size ≤ k_) ∧ k_ ≠ gb671 ∧ k_ ≠ g) k_ from fun k_ hk => ⟨(Nat.le_trans (keep_size (w := w) (g := g) (row := none) (by exact kw HK.out)) hk), Kd.freshB (g := gb671) (o := .cells #[.int .i64 0, .int .i64 0, .string (⟨#[]⟩ : ByteArray), .slice none 0 0] 55 (0, 0)) (by exact bk BK671.out) k_ hk, IsS105.fresh (by exact sw105 HI0.out) k_ hk⟩) _ (Nat.le_refl _)) (Below.refl _ _) (Nat.le_refl _) (by simp) ?_; (case hd => rfl); (case hg => rfl); (case hr => first | (go_simp; done) | (go_simp; rfl)); (case hp => exact (Reps.c4 (show Kd.FK k55 _ _ (⟨t688, t689, t690, t691⟩ : S55) [.int .i64 t688, .int .i64 t689, .string t690, .slice Ao40 t691.length co40] from (k55_mkF _ _ (⟨t688, t689, t690, t691⟩ : S55) (Kd.N_reads' (Kd.N_mono (ok' := (fun k_ => (w.heap.size ≤ k_) ∧ k_ ≠ gb671 ∧ k_ ≠ g)) (HO693.out) (fun k_ hk => okp hk))).2.1 (Kd.N_F (Kd.N_mono (ok' := (fun k_ => (w.heap.size ≤ k_) ∧ k_ ≠ gb671 ∧ k_ ≠ g)) (HO693.out) (fun k_ hk => okp hk))))) (Reps.none _ _)))
          intro v696 w41 ho42 hb hg_ hnew_
          clear hg_ hnew_
          (first | rw [← Ny695.out] at ho42 | (simp only [Int.reduceToNat] at ho42; rw [← Ny695.out] at ho42))
          have n0_ := Aside0.mk (Kd.N_lower ho42 (keep_size (w := w) (g := g) (row := none) (by exact kw HK.out)))
          have n1_ := Aside0.mk (IsS105.below (by exact sw105 HI0.out) hb)
          have n2_ := Aside0.mk (blk_below (g := gb671) (o := .cells #[.int .i64 0, .int .i64 0, .string (⟨#[]⟩ : ByteArray), .slice none 0 0] 55 (0, 0)) (by exact bk BK671.out) hb)
          have n3_ := Aside0.mk (KeepBut.trans (by exact kw HK.out) (KeepBut.of_below hb g none) (.inl rfl))
          have n4_ := Aside0.mk (below_step (by exact bw HB.out) hb)
          have z_HO684 := fun (h0_ : b 0 = true) => (show Kd.R Kd.string 9 w41 w.heap.size (fun k_ => (w.heap.size ≤ k_)) v683 y682 from by first | exact (Kd.R_below (by (with_reducible repeat (first | apply Kd.R_alloc | apply Kd.R_drewN | apply Kd.R_drew)); exact (Q_HO684 h0_)) hb) | exact Kd.R_mono (Kd.R_below (by (with_reducible repeat (first | apply Kd.R_alloc | apply Kd.R_drewN | apply Kd.R_drew)); exact (Q_HO684 h0_)) hb) (fun _ h_ => by first | trivial | exact h_ | exact h_.1))
          clear HI0
          clear BK671
          clear HK
          clear HB
          clear HO693
          have HO697 := n0_
          have HI0 := n1_
          have BK671 := n2_
          have HK := n3_
          have HB := n4_
          clear n0_ n1_ n2_ n3_ n4_
          clear hb ho42
          refine hK.out _ _ ⟨v683, adz_v683, .slice Ao40 t691.length co40, v696, m3_, m8_, m10_, (by rw [ha.out]; exact putSel_upk 6 hb_ rfl rfl rfl), fun _ => (by exact bk BK671.out), fun h0_ => absurd ((hon 2 (by kernel_rfl)).symm.trans h0_) (by decide), (by exact kw HK.out), (by exact bw HB.out), z_HO684, Q_HA_HO684, fun _ h1_ => absurd ((hon 8 (by kernel_rfl)).symm.trans h1_) (by decide), fun _ h1_ => absurd ((up_self b 9).symm.trans h1_) (by decide), fun _ => (by exact sw105 HI0.out), fun _ => (by (with_reducible repeat (first | apply Kd.N_alloc | apply Kd.N_drewN | apply Kd.N_drew)); exact Kd.N_mono HO697.out (fun _ hk => okp hk)), fun h0_ => absurd ((hoff 11 (by kernel_rfl)).symm.trans h0_) (by decide), Q_X3_, Q_X8_, fun h0_ => absurd ((hoff 10 (by kernel_rfl)).symm.trans h0_) (by decide)⟩
         refine steps_cons ?_ ?_
         ·
          rintro b a w' ⟨v683, adz_v683, v692, v696, m3_, m8_, m10_, ha, Q_BK671, Q_HI0, Q_HK, Q_HB, Q_HO684, Q_HA_HO684, Q_HI0_e2, Q_HO693, Q_HI0_e8, Q_HO697, Q_BK671_e11, Q_X3_, Q_X8_, Q_X10_⟩ hb_ hon hoff
          refine ⟨_, rfl, fun K hK => ?_⟩
          have e31 : a.tmps[31]? = some (.string (rdOf ByteArray.empty y682 t685)) := by rw [ha]; exact putSel_on (e := (4, 31, .string (rdOf ByteArray.empty y682 t685))) 3 rfl rfl (hon 4 (by kernel_rfl)) rfl
          have e36 : a.tmps[36]? = some (v696) := by rw [ha]; exact putSel_on (e := (9, 36, v696)) 6 rfl rfl (hon 9 (by kernel_rfl)) rfl
          replace ha := Aside0.mk ha
          have BK671 := Aside0.mk (Q_BK671 (hoff 11 (by kernel_rfl)))
          have HK := Aside0.mk Q_HK
          have HB := Aside0.mk Q_HB
          have HO684 := Aside0.mk (Q_HO684 (hon 0 (by kernel_rfl)))
          have HA_HO684 := Aside0.mk (Q_HA_HO684 (hon 0 (by kernel_rfl)))
          have HI0 := Aside0.mk (Q_HI0_e8 (hon 8 (by kernel_rfl)))
          have HO697 := Aside0.mk (Q_HO697 (hon 9 (by kernel_rfl)))
          obtain ⟨Ao10_0, co10_0, eo_⟩ := Kd.N_slice HO697.out
          subst eo_
          refine value_ (w1 := w') (v := .agg #[.int .i64 8, .int .i64 0, .string (rdOf ByteArray.empty y682 t685), .slice Ao10_0 y695.length co10_0]) (by rfl) rfl ?_ ?_
          ·
           go_simp
           (try simp only [i64_w])
           try rfl
          refine hK.out _ _ ⟨v683, adz_v683, v692, .slice Ao10_0 y695.length co10_0, m3_, m8_, (.agg #[.int .i64 8, .int .i64 0, .string (rdOf ByteArray.empty y682 t685), .slice Ao10_0 y695.length co10_0]), (by rw [ha.out]; exact putSel_upk 7 hb_ rfl rfl rfl), Q_BK671, fun h0_ => absurd ((hon 2 (by kernel_rfl)).symm.trans h0_) (by decide), Q_HK, Q_HB, Q_HO684, Q_HA_HO684, fun _ h1_ => absurd ((hon 8 (by kernel_rfl)).symm.trans h1_) (by decide), fun _ h1_ => absurd ((hon 9 (by kernel_rfl)).symm.trans h1_) (by decide), Q_HI0_e8, Q_HO697, fun h0_ => absurd ((hoff 11 (by kernel_rfl)).symm.trans h0_) (by decide), Q_X3_, Q_X8_, fun _ => rfl⟩
         refine steps_cons ?_ ?_
         ·
          rintro b a w' ⟨v683, adz_v683, v692, v696, m3_, m8_, m10_, ha, Q_BK671, Q_HI0, Q_HK, Q_HB, Q_HO684, Q_HA_HO684, Q_HI0_e2, Q_HO693, Q_HI0_e8, Q_HO697, Q_BK671_e11, Q_X3_, Q_X8_, Q_X10_⟩ hb_ hon hoff
          refine ⟨_, rfl, fun K hK => ?_⟩
          have e4 : a.tmps[4]? = some (.pointer (some ⟨gb671, 0, none⟩)) := by rw [ha]; exact (putSel_off rfl).trans rfl
          have e37 : a.tmps[37]? = some (m10_) := by rw [ha]; exact putSel_on (e := (10, 37, m10_)) 7 rfl rfl (hon 10 (by kernel_rfl)) rfl
          rw [Q_X10_ (hon 10 (by kernel_rfl))] at e37
          replace ha := Aside0.mk ha
          have BK671 := Aside0.mk (Q_BK671 hb_)
          have HK := Aside0.mk Q_HK
          have HB := Aside0.mk Q_HB
          have HO684 := Aside0.mk (Q_HO684 (hon 0 (by kernel_rfl)))
          have HA_HO684 := Aside0.mk (Q_HA_HO684 (hon 0 (by kernel_rfl)))
          have HI0 := Aside0.mk (Q_HI0_e8 (hon 8 (by kernel_rfl)))
          have HO697 := Aside0.mk (Q_HO697 (hon 9 (by kernel_rfl)))
          obtain ⟨co47, eo47⟩ := HA_HO684.out
          clear HA_HO684
          subst eo47
          obtain ⟨Ao48, co48, eo48⟩ := Kd.N_slice HO697.out
          (first | subst eo48 | (injection eo48 with f1_ f2_ f3_; have f4_ := f1_.symm; have f5_ := f3_.symm; clear f1_ f2_ f3_; subst f4_; subst f5_))
          have hs49 : w'.cell? ⟨gb671, 0, none⟩ = some (.int .i64 0) := (blk_cell BK671.out 0).trans rfl
          have hfs49 := blk_frozen BK671.out 0
          have hs50 : w'.cell? ⟨gb671, 1, none⟩ = some (.int .i64 0) := (blk_cell BK671.out 1).trans rfl
          have hfs50 := blk_frozen BK671.out 1
          have hs51 : w'.cell? ⟨gb671, 2, none⟩ = some (.string (⟨#[]⟩ : ByteArray)) := (blk_cell BK671.out 2).trans rfl
          have hfs51 := blk_frozen BK671.out 2
          have hs52 : w'.cell? ⟨gb671, 3, none⟩ = some (.slice none 0 0) := (blk_cell BK671.out 3).trans rfl
          have hfs52 := blk_frozen BK671.out 3
          refine skip_ (w1 := ?_) (by rfl) rfl ?_ ?_
          rotate_left
          ·
           go_simp
           rfl
          refine hK.out _ _ ⟨.slice (some adz_v683) y682.length co47, adz_v683, v692, .slice Ao48 y695.length co48, m3_, m8_, m10_, (by rw [ha.out]; exact putSel_none (v := undef) rfl), fun h0_ => absurd ((up_self b 11).symm.trans h0_) (by decide), fun h0_ => absurd ((hon 2 (by kernel_rfl)).symm.trans h0_) (by decide), (by exact kw HK.out), (by exact bw HB.out), fun _ => (by (with_reducible repeat (first | apply Kd.R_alloc | apply Kd.R_drewN | apply Kd.R_drew)); exact Kd.R_mono (Kd.R_far (p := ⟨gb671, 3, none⟩) (Kd.R_far (p := ⟨gb671, 2, none⟩) (Kd.R_far (p := ⟨gb671, 1, none⟩) (Kd.R_far (p := ⟨gb671, 0, none⟩) (Kd.R_types HO684.out BK671.out (by decide)) (fun _ hk => hk.2) (.int .i64 8)) (fun _ hk => hk.2) (.int .i64 0)) (fun _ hk => hk.2) (.string (rdOf ByteArray.empty y682 t685))) (fun _ hk => hk.2) (.slice Ao48 y695.length co48)) (fun _ hk => hk.1)), fun _ => ⟨_, rfl⟩, fun _ h1_ => absurd ((hon 8 (by kernel_rfl)).symm.trans h1_) (by decide), fun _ h1_ => absurd ((hon 9 (by kernel_rfl)).symm.trans h1_) (by decide), fun _ => (by exact sw105 HI0.out), fun _ => (by (with_reducible repeat (first | apply Kd.N_alloc | apply Kd.N_drewN | apply Kd.N_drew)); exact Kd.N_mono (Kd.N_far (p := ⟨gb671, 3, none⟩) (Kd.N_far (p := ⟨gb671, 2, none⟩) (Kd.N_far (p := ⟨gb671, 1, none⟩) (Kd.N_far (p := ⟨gb671, 0, none⟩) (Kd.N_mono HO697.out (fun k_ hk => (⟨hk, okp hk⟩ : _ ∧ k_ ≠ gb671))) (fun _ hk => hk.2) (.int .i64 8)) (fun _ hk => hk.2) (.int .i64 0)) (fun _ hk => hk.2) (.string (rdOf ByteArray.empty y682 t685))) (fun _ hk => hk.2) (.slice Ao48 y695.length co48)) (fun _ hk => okp hk)), fun _ => (by (with_reducible repeat (first | refine blk_drewN ?_ _ | refine blk_drew ?_ | refine blk_alloc ?_ _)); refine blk_put (cs := #[.int .i64 8, .int .i64 0, .string (rdOf ByteArray.empty y682 t685), .slice none 0 0]) ?_ 3 _ rfl; (with_reducible repeat (first | refine blk_drewN ?_ _ | refine blk_drew ?_ | refine blk_alloc ?_ _)); refine blk_put (cs := #[.int .i64 8, .int .i64 0, .string (⟨#[]⟩ : ByteArray), .slice none 0 0]) ?_ 2 _ rfl; (with_reducible repeat (first | refine blk_drewN ?_ _ | refine blk_drew ?_ | refine blk_alloc ?_ _)); refine blk_put (cs := #[.int .i64 8, .int .i64 0, .string (⟨#[]⟩ : ByteArray), .slice none 0 0]) ?_ 1 _ rfl; (with_reducible repeat (first | refine blk_drewN ?_ _ | refine blk_drew ?_ | refine blk_alloc ?_ _)); refine blk_put (cs := #[.int .i64 0, .int .i64 0, .string (⟨#[]⟩ : ByteArray), .slice none 0 0]) ?_ 0 _ rfl; exact bk BK671.out), Q_X3_, Q_X8_, Q_X10_⟩
         exact steps_nil
        rintro b a w50 hall ⟨v683, adz_v683, v692, v696, m3_, m8_, m10_, ha, Q_BK671, Q_HI0, Q_HK, Q_HB, Q_HO684, Q_HA_HO684, Q_HI0_e2, Q_HO693, Q_HI0_e8, Q_HO697, Q_BK671_e11, Q_X3_, Q_X8_, Q_X10_⟩
        clear BK671 HB HI0 HK
        have hb0_ := hall 0 (by kernel_rfl)
        have hb2_ := hall 2 (by kernel_rfl)
        have hb3_ := hall 3 (by kernel_rfl)
        have hb4_ := hall 4 (by kernel_rfl)
        have hb7_ := hall 7 (by kernel_rfl)
        have hb8_ := hall 8 (by kernel_rfl)
        have hb9_ := hall 9 (by kernel_rfl)
        have hb10_ := hall 10 (by kernel_rfl)
        have hb11_ := hall 11 (by kernel_rfl)
        subst ha
        obtain rfl := Q_X3_ hb3_
        obtain rfl := Q_X8_ hb8_
        obtain rfl := Q_X10_ hb10_
        simp only [putSel, hb0_, hb2_, hb3_, hb4_, hb7_, hb8_, hb9_, hb10_, hb11_, if_true, Act.put, List.setIfInBounds_toArray, List.set_cons_zero, List.set_cons_succ]
        clear Q_BK671
        clear Q_HI0
        have HK := Aside0.mk Q_HK
        clear Q_HK
        have HB := Aside0.mk Q_HB
        clear Q_HB
        have HO684 := Aside0.mk (Q_HO684 hb0_)
        clear Q_HO684
        have HA_HO684 := Aside0.mk (Q_HA_HO684 hb0_)
        clear Q_HA_HO684
        clear Q_HI0_e2
        clear Q_HO693
        have HI0 := Aside0.mk (Q_HI0_e8 hb8_)
        clear Q_HI0_e8
        have HO697 := Aside0.mk (Q_HO697 hb9_)
        clear Q_HO697
        have BK671 := Aside0.mk (Q_BK671_e11 hb11_)
        clear Q_BK671_e11
        clear hall hb0_ hb2_ hb3_ hb4_ hb7_ hb8_ hb9_ hb10_ hb11_
        obtain ⟨co51, eo51⟩ := HA_HO684.out
        clear HA_HO684
        subst eo51
        obtain ⟨Ao52, co52, eo52⟩ := Kd.N_slice HO697.out
        (first | subst eo52 | (injection eo52 with f1_ f2_ f3_; have f4_ := f1_.symm; have f5_ := f3_.symm; clear f1_ f2_ f3_; subst f4_; subst f5_))
        try go_wp2
        refine bodyPost_ret (results_cell_row rfl _ _ gb671 55 #[.int .i64 8, .int .i64 0, .string (rdOf ByteArray.empty y682 t685), .slice Ao52 y695.length co52] (0, 0) _ rfl (by exact bk BK671.out) Try.underlying55 rfl (by kernel_rfl)) rfl ?_
        exact ⟨_, by first | rfl | (simp [errW_none, errW_some] <;> rfl) | (simp [*, errW_none, errW_some] <;> rfl), by (with_reducible repeat (first | apply Kd.N_alloc | apply Kd.N_drewN | apply Kd.N_drew)); exact Kd.N_mono HO697.out (fun _ hk => hk.1), by exact sw105 HI0.out, by exact bw HB.out, by exact kw HK.out⟩
       ·
        rw [if_neg c32] at H
        exact absurd H (by simp)
      ·
       rw [if_neg c31] at H
       exact absurd H (by simp)
     ·
      rw [if_neg c29] at H
      have c29b0 : decide (0 < a1) = false := decide_eq_false c29
      clear c29
      simp only [Option.some.injEq, Prod.mk.injEq] at H
      obtain ⟨rfl, rfl, rfl, rfl, rfl⟩ := H
      go_enter Try.func87, Try.ntmps87
      go_wp2_with (first | ((with_reducible refine gate_dst (N := 4) rfl ?_); refine box_event ?hg (N := 4) ?hd (cs := #[.int .i64 0, .int .i64 0, .string (⟨#[]⟩ : ByteArray), .slice none 0 0]) (t := 55) ?hr ?_; (case hd => rfl); (case hg => rfl); (case hr => first | (go_simp; done) | (go_simp; rfl)); intro gb671 hg w53 hbox hb; have n0_ := Aside0.mk (IsS105.below (by exact sw105 HI0.out) hb); have n1_ := Aside0.mk (KeepBut.trans (by exact kw HK.out) (KeepBut.of_below hb g none) (.inl rfl)); have n2_ := Aside0.mk (below_step (by exact bw HB.out) hb); have n3_ := Aside0.mk (hbox); have n4_ := Aside0.mk ((by rw [hg]; exact (keep_size (w := w) (g := g) (row := none) (by exact kw HK.out)) : w.heap.size ≤ gb671)); have n5_ := Aside0.mk ((Nat.le_trans HW0.out (by rw [hg]; exact (keep_size (w := w) (g := g) (row := none) (by exact kw HK.out)) : w.heap.size ≤ gb671) : w0.heap.size ≤ gb671)); have n6_ := Aside0.mk ((by rw [hg]; exact Nat.ne_of_lt (IsS105.lt (show IsS105 w0 _ g s0_0 s0_1 from by exact sw105 HI0.out)) : g ≠ gb671)); have n7_ := Aside0.mk ((by rw [hg]; exact Nat.ne_of_gt (IsS105.lt (show IsS105 w0 _ g s0_0 s0_1 from by exact sw105 HI0.out)) : gb671 ≠ g)); clear HI0; clear HK; clear HB; have HI0 := n0_; have HK := n1_; have HB := n2_; have BK671 := n3_; have GW671 := n4_; have GE671 := n5_; have NB0_671 := n6_; have NB671_0 := n7_; clear n0_ n1_ n2_ n3_ n4_ n5_ n6_ n7_; clear hb hbox hg) | ((with_reducible refine gate_callee (f := 62) rfl ?_); refine gl (some 6) Try.func62 #[.pointer (some ⟨g, 0, none⟩), .int .i64 5] ?_; (with_reducible refine (spec_l20Rd_pick.calls k g s0_0 s0_1 5 t672 t673 w0 _ ?side1 ?side2 A3.out).mono ?_); (case side1 => exact sw105 HI0.out); (case side2 => exact bw HB.out); rintro e w54 ⟨rfl, hi, hb, hk⟩; refine ⟨_, rfl, ?_⟩; have n0_ := Aside0.mk (KeepBut.blk hk (g' := gb671) (o := .cells #[.int .i64 0, .int .i64 0, .string (⟨#[]⟩ : ByteArray), .slice none 0 0] 55 (0, 0)) (by exact bk BK671.out) NB671_0.out (by simp)); have n1_ := Aside0.mk (KeepBut.trans (by exact kw HK.out) hk (.inl rfl)); have n2_ := Aside0.mk (hb); have n3_ := Aside0.mk (hi); clear BK671; clear HK; clear HB; clear HI0; have BK671 := n0_; have HK := n1_; have HB := n2_; have HI0 := n3_; clear n0_ n1_ n2_ n3_; (try clear hb); (try clear hb2); (try clear hk); (try clear hi); have hnb55 := NB671_0.out; have hnc55 := NB0_671.out; have hcz56_0 : w54.cell? ⟨gb671, 0, none⟩ = some (.int .i64 0) := (blk_cell BK671.out 0).trans rfl; have hcz56_1 : w54.cell? ⟨gb671, 1, none⟩ = some (.int .i64 0) := (blk_cell BK671.out 1).trans rfl; have hcz56_2 : w54.cell? ⟨gb671, 2, none⟩ = some (.string (⟨#[]⟩ : ByteArray)) := (blk_cell BK671.out 2).trans rfl; have hcz56_3 : w54.cell? ⟨gb671, 3, none⟩ = some (.slice none 0 0) := (blk_cell BK671.out 3).trans rfl; have hfz56_0 := blk_frozen BK671.out 0; have hfz56_1 := blk_frozen BK671.out 1; have hfz56_2 := blk_frozen BK671.out 2; have hfz56_3 := blk_frozen BK671.out 3))
      refine bodyPost_ret (results_cell_row rfl _ _ gb671 55 #[.int .i64 4, .int .i64 0, .string (⟨#[]⟩ : ByteArray), .slice none 0 0] (0, 0) _ rfl (by (with_reducible repeat (first | refine blk_drewN ?_ _ | refine blk_drew ?_ | refine blk_alloc ?_ _)); refine blk_put (cs := #[.int .i64 4, .int .i64 0, .string (⟨#[]⟩ : ByteArray), .slice none 0 0]) ?_ 3 _ rfl; (with_reducible repeat (first | refine blk_drewN ?_ _ | refine blk_drew ?_ | refine blk_alloc ?_ _)); refine blk_put (cs := #[.int .i64 4, .int .i64 0, .string (⟨#[]⟩ : ByteArray), .slice none 0 0]) ?_ 2 _ rfl; (with_reducible repeat (first | refine blk_drewN ?_ _ | refine blk_drew ?_ | refine blk_alloc ?_ _)); refine blk_put (cs := #[.int .i64 4, .int .i64 0, .string (⟨#[]⟩ : ByteArray), .slice none 0 0]) ?_ 1 _ rfl; (with_reducible repeat (first | refine blk_drewN ?_ _ | refine blk_drew ?_ | refine blk_alloc ?_ _)); refine blk_put (cs := #[.int .i64 0, .int .i64 0, .string (⟨#[]⟩ : ByteArray), .slice none 0 0]) ?_ 0 _ rfl; exact bk BK671.out) Try.underlying55 rfl (by kernel_rfl)) rfl ?_
      exact ⟨_, by first | rfl | (simp [errW_none, errW_some] <;> rfl) | (simp [*, errW_none, errW_some] <;> rfl), by first | exact Kd.R_nil _ _ _ _ _ | exact Kd.N_nil _ _ _ _ _ | exact Kd.V_nil _ _ _ _ _ | exact Kd.Q_nil _ _ _ _ _ | exact Kd.S_nil _ _ _ _ _, by exact sw105 HI0.out, by exact bw HB.out, by exact kw HK.out⟩
    ·
     rw [if_neg c28] at H
     have c28b0 : (t672 == 3) = false := beq_eq_false_iff_ne.mpr c28
     have c28b1 : (t672 != 3) = true := bne_iff_ne.mpr c28
     simp only [Option.some.injEq, Prod.mk.injEq] at H
     obtain ⟨rfl, rfl, rfl, rfl, rfl⟩ := H
     go_enter Try.func87, Try.ntmps87
     go_wp2_with (first | ((with_reducible refine gate_dst (N := 4) rfl ?_); refine box_event ?hg (N := 4) ?hd (cs := #[.int .i64 0, .int .i64 0, .string (⟨#[]⟩ : ByteArray), .slice none 0 0]) (t := 55) ?hr ?_; (case hd => rfl); (case hg => rfl); (case hr => first | (go_simp; done) | (go_simp; rfl)); intro gb671 hg w57 hbox hb; have n0_ := Aside0.mk (IsS105.below (by exact sw105 HI0.out) hb); have n1_ := Aside0.mk (KeepBut.trans (by exact kw HK.out) (KeepBut.of_below hb g none) (.inl rfl)); have n2_ := Aside0.mk (below_step (by exact bw HB.out) hb); have n3_ := Aside0.mk (hbox); have n4_ := Aside0.mk ((by rw [hg]; exact (keep_size (w := w) (g := g) (row := none) (by exact kw HK.out)) : w.heap.size ≤ gb671)); have n5_ := Aside0.mk ((Nat.le_trans HW0.out (by rw [hg]; exact (keep_size (w := w) (g := g) (row := none) (by exact kw HK.out)) : w.heap.size ≤ gb671) : w0.heap.size ≤ gb671)); have n6_ := Aside0.mk ((by rw [hg]; exact Nat.ne_of_lt (IsS105.lt (show IsS105 w0 _ g s0_0 s0_1 from by exact sw105 HI0.out)) : g ≠ gb671)); have n7_ := Aside0.mk ((by rw [hg]; exact Nat.ne_of_gt (IsS105.lt (show IsS105 w0 _ g s0_0 s0_1 from by exact sw105 HI0.out)) : gb671 ≠ g)); clear HI0; clear HK; clear HB; have HI0 := n0_; have HK := n1_; have HB := n2_; have BK671 := n3_; have GW671 := n4_; have GE671 := n5_; have NB0_671 := n6_; have NB671_0 := n7_; clear n0_ n1_ n2_ n3_ n4_ n5_ n6_ n7_; clear hb hbox hg) | ((with_reducible refine gate_callee (f := 62) rfl ?_); refine gl (some 6) Try.func62 #[.pointer (some ⟨g, 0, none⟩), .int .i64 5] ?_; (with_reducible refine (spec_l20Rd_pick.calls k g s0_0 s0_1 5 t672 t673 w0 _ ?side1 ?side2 A3.out).mono ?_); (case side1 => exact sw105 HI0.out); (case side2 => exact bw HB.out); rintro e w58 ⟨rfl, hi, hb, hk⟩; refine ⟨_, rfl, ?_⟩; have n0_ := Aside0.mk (KeepBut.blk hk (g' := gb671) (o := .cells #[.int .i64 0, .int .i64 0, .string (⟨#[]⟩ : ByteArray), .slice none 0 0] 55 (0, 0)) (by exact bk BK671.out) NB671_0.out (by simp)); have n1_ := Aside0.mk (KeepBut.trans (by exact kw HK.out) hk (.inl rfl)); have n2_ := Aside0.mk (hb); have n3_ := Aside0.mk (hi); clear BK671; clear HK; clear HB; clear HI0; have BK671 := n0_; have HK := n1_; have HB := n2_; have HI0 := n3_; clear n0_ n1_ n2_ n3_; (try clear hb); (try clear hb2); (try clear hk); (try clear hi); have hnb59 := NB671_0.out; have hnc59 := NB0_671.out; have hcz60_0 : w58.cell? ⟨gb671, 0, none⟩ = some (.int .i64 0) := (blk_cell BK671.out 0).trans rfl; have hcz60_1 : w58.cell? ⟨gb671, 1, none⟩ = some (.int .i64 0) := (blk_cell BK671.out 1).trans rfl; have hcz60_2 : w58.cell? ⟨gb671, 2, none⟩ = some (.string (⟨#[]⟩ : ByteArray)) := (blk_cell BK671.out 2).trans rfl; have hcz60_3 : w58.cell? ⟨gb671, 3, none⟩ = some (.slice none 0 0) := (blk_cell BK671.out 3).trans rfl; have hfz60_0 := blk_frozen BK671.out 0; have hfz60_1 := blk_frozen BK671.out 1; have hfz60_2 := blk_frozen BK671.out 2; have hfz60_3 := blk_frozen BK671.out 3))
     refine bodyPost_ret (results_cell_row rfl _ _ gb671 55 #[.int .i64 4, .int .i64 0, .string (⟨#[]⟩ : ByteArray), .slice none 0 0] (0, 0) _ rfl (by (with_reducible repeat (first | refine blk_drewN ?_ _ | refine blk_drew ?_ | refine blk_alloc ?_ _)); refine blk_put (cs := #[.int .i64 4, .int .i64 0, .string (⟨#[]⟩ : ByteArray), .slice none 0 0]) ?_ 3 _ rfl; (with_reducible repeat (first | refine blk_drewN ?_ _ | refine blk_drew ?_ | refine blk_alloc ?_ _)); refine blk_put (cs := #[.int .i64 4, .int .i64 0, .string (⟨#[]⟩ : ByteArray), .slice none 0 0]) ?_ 2 _ rfl; (with_reducible repeat (first | refine blk_drewN ?_ _ | refine blk_drew ?_ | refine blk_alloc ?_ _)); refine blk_put (cs := #[.int .i64 4, .int .i64 0, .string (⟨#[]⟩ : ByteArray), .slice none 0 0]) ?_ 1 _ rfl; (with_reducible repeat (first | refine blk_drewN ?_ _ | refine blk_drew ?_ | refine blk_alloc ?_ _)); refine blk_put (cs := #[.int .i64 0, .int .i64 0, .string (⟨#[]⟩ : ByteArray), .slice none 0 0]) ?_ 0 _ rfl; exact bk BK671.out) Try.underlying55 rfl (by kernel_rfl)) rfl ?_
     exact ⟨_, by first | rfl | (simp [errW_none, errW_some] <;> rfl) | (simp [*, errW_none, errW_some] <;> rfl), by first | exact Kd.R_nil _ _ _ _ _ | exact Kd.N_nil _ _ _ _ _ | exact Kd.V_nil _ _ _ _ _ | exact Kd.Q_nil _ _ _ _ _ | exact Kd.S_nil _ _ _ _ _, by exact sw105 HI0.out, by exact bw HB.out, by exact kw HK.out⟩
theorem spec_l20Thing.calls (k : Nat) : ∀ (g : Nat) (s0_0 : List Int) (s0_1 : Int) (a1 : Int) (r1 : Int) (r2 : Int) (r3 : ByteArray) (r4 : List (S55)) (r5 : Int) (w0 w : World) (hI : IsS105 w0 w g s0_0 s0_1) (hB : Below w0.heap.size w0 w) (h : spec_l20Thing.f k s0_0 s0_1 a1 = some (r1, r2, r3, r4, r5)),
    Calls Try.prog 87 #[.pointer (some ⟨g, 0, none⟩), .int .i64 a1] w fun e w' => ∃ v3_ : Value, e = .returned (.agg #[.int .i64 r1, .int .i64 r2, .string r3, v3_]) ∧ Kd.V k55 55 w' w.heap.size (fun k_ => (w.heap.size ≤ k_)) v3_ r4 ∧ IsS105 w0 w' g s0_0 r5 ∧ Below w0.heap.size w0 w' ∧ KeepBut w w' g none := by
  intro g s0_0 s0_1 a1 r1 r2 r3 r4 r5 w0 w hI hB h
  refine (spec_l20Thing.calls0 k g s0_0 s0_1 a1 r1 r2 r3 r4 r5 w0 w hI hB h).mono ?_
  rintro e_ w_ ⟨v_, he_, hv_, hr_⟩
  exact ⟨v_, he_, Kd.N_V hv_, hr_⟩

end Go.Proofs.Ytejfaenmgdkaoaa.P
