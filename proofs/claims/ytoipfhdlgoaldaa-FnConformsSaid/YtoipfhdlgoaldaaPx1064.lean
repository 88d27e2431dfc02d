-- Written by a program of this session (wip/tool).
import Derived.Test.YtoipfhdlgoaldaaPx0
import Derived.Test.YtoipfhdlgoaldaaPx1031
import Derived.Test.YtoipfhdlgoaldaaPx1042
namespace Go.Proofs.Ytoipfhdlgoaldaa.P
open Go.RowKit Go.Proofs.YtoipfhdlgoaldaaW.PrintWords Go.Proofs.YtoipfhdlgoaldaaW.PrintLast Go.Proofs.YtoipfhdlgoaldaaW.PrintMore
attribute [local go_sem] max2_int min2_int max_two min_two max_three min_three max_four min_four   -- for this text's walks alone
set_option linter.unusedVariables false
set_option linter.unusedSimpArgs false

/-! ### spec_l20Value: function 64 -/
mutual
def spec_l20Value.j0 : Nat → Int → Int → Bool → List Int → Int → Int → Int → Option (Int × Int × Int)
 | 0, _, _, _, _, _, _, _ => none
 | k + 1, x1, x2, x30, x1000, x1001, x467000, x467001 => if x30 = true then (spec_l20Value.j1 k x1 x2 x1000 x1001 2 99) else (spec_l20Value.j1 k x1 x2 x1000 x1001 x467000 x467001)
def spec_l20Value.j1 : Nat → Int → Int → List Int → Int → Int → Int → Option (Int × Int × Int)
 | 0, _, _, _, _, _, _ => none
 | k + 1, x1, x2, x1000, x1001, x467000, x467001 => (spec_l20Rd_odd.f k x1000 x1001 x2).bind fun bt467 => (if bt467.1 = true then ((some (([(⟨0, 0⟩ : S52), (⟨1, 2⟩ : S52), (⟨2, 100⟩ : S52), (⟨3, x1⟩ : S52), (⟨4, 0⟩ : S52), (⟨2, (-1)⟩ : S52)] : List (S52)) : List (S52))).bind fun y469 => ((spec_l20Rd_pick.f k x1000 bt467.2 6).bind fun bt472 => (if 0 ≤ bt472.1 then (if bt472.1 < (y469.length : Int) then (some ((rd_T52 y469 bt472.1).f0, (rd_T52 y469 bt472.1).f1, bt472.2)) else (none)) else (none)))) else (some (x467000, x467001, bt467.2)))
end
def spec_l20Value.f (k : Nat) (s0_0 : List Int) (s0_1 : Int) (a1 : Int) (a2 : Int) : Option (Int × Int × Int) := (spec_l20Rd_pick.f k s0_0 s0_1 2).bind fun bt454 => ((spec_l20Rd_pick.f k s0_0 bt454.2 10).bind fun bt456 => ((spec_l20Rd_pick.f k s0_0 bt456.2 (mx 1 a1)).bind fun bt458 => ((some (([(⟨1, bt454.1⟩ : S52), (⟨2, bt456.1⟩ : S52), (⟨3, bt458.1⟩ : S52)] : List (S52)) : List (S52))).bind fun y460 => ((spec_l20Rd_pick.f k s0_0 bt458.2 3).bind fun bt463 => (if 0 ≤ bt463.1 then (if bt463.1 < (y460.length : Int) then (if a1 = 0 then (spec_l20Value.j0 k a1 a2 (((rd_T52 y460 bt463.1).f0) == 3) s0_0 bt463.2 ((rd_T52 y460 bt463.1).f0) ((rd_T52 y460 bt463.1).f1)) else (spec_l20Value.j0 k a1 a2 false s0_0 bt463.2 ((rd_T52 y460 bt463.1).f0) ((rd_T52 y460 bt463.1).f1))) else (none)) else (none))))))
theorem spec_l20Value.mono_l : ∀ k, (∀ y0 y1 y2 y3 y4 y5 y6, LeO (spec_l20Value.j0 k y0 y1 y2 y3 y4 y5 y6) (spec_l20Value.j0 (k + 1) y0 y1 y2 y3 y4 y5 y6)) ∧ (∀ y0 y1 y2 y3 y4 y5, LeO (spec_l20Value.j1 k y0 y1 y2 y3 y4 y5) (spec_l20Value.j1 (k + 1) y0 y1 y2 y3 y4 y5))
 | 0 => ⟨fun _ _ _ _ _ _ _ r h => by simp [spec_l20Value.j0] at h, fun _ _ _ _ _ _ r h => by simp [spec_l20Value.j1] at h⟩
 | k + 1 => by
  obtain ⟨ih0, ih1⟩ := spec_l20Value.mono_l k
  refine ⟨?_, ?_⟩
  ·
   intro y0 y1 y2 y3 y4 y5 y6
   unfold spec_l20Value.j0
   repeat' first
   | (with_reducible exact ih0 _ _ _ _ _ _ _)
   | (with_reducible exact ih1 _ _ _ _ _ _)
   | (with_reducible exact spec_l20Rd_odd.mono _ _ _ _)
   | (with_reducible exact spec_l20Rd_pick.mono _ _ _ _)
   | (with_reducible exact LeO.refl _)
   | (with_reducible exact LeO.none _)
   | (with_reducible refine LeO.ite ?_ ?_)
   | (with_reducible refine LeO.bind ?_ (fun _ => ?_))
   | exact ih0 _ _ _ _ _ _ _
   | exact ih1 _ _ _ _ _ _
   | exact spec_l20Rd_odd.mono _ _ _ _
   | exact spec_l20Rd_pick.mono _ _ _ _
   | exact LeO.none _
   | refine LeO.ite ?_ ?_
   | refine LeO.bind ?_ (fun _ => ?_)
  ·
   intro y0 y1 y2 y3 y4 y5
   unfold spec_l20Value.j1
   repeat' first
   | (with_reducible exact ih0 _ _ _ _ _ _ _)
   | (with_reducible exact ih1 _ _ _ _ _ _)
   | (with_reducible exact spec_l20Rd_odd.mono _ _ _ _)
   | (with_reducible exact spec_l20Rd_pick.mono _ _ _ _)
   | (with_reducible exact LeO.refl _)
   | (with_reducible exact LeO.none _)
   | (with_reducible refine LeO.ite ?_ ?_)
   | (with_reducible refine LeO.bind ?_ (fun _ => ?_))
   | exact ih0 _ _ _ _ _ _ _
   | exact ih1 _ _ _ _ _ _
   | exact spec_l20Rd_odd.mono _ _ _ _
   | exact spec_l20Rd_pick.mono _ _ _ _
   | exact LeO.none _
   | refine LeO.ite ?_ ?_
   | refine LeO.bind ?_ (fun _ => ?_)
theorem spec_l20Value.mono : ∀ a0 a1 a2 a3 k, LeO (spec_l20Value.f k a0 a1 a2 a3) (spec_l20Value.f (k + 1) a0 a1 a2 a3) := by
 intro a0 a1 a2 a3 k
 obtain ⟨ih0, ih1⟩ := spec_l20Value.mono_l k
 unfold spec_l20Value.f
 repeat' first
   | (with_reducible exact ih0 _ _ _ _ _ _ _)
   | (with_reducible exact ih1 _ _ _ _ _ _)
   | (with_reducible exact spec_l20Rd_odd.mono _ _ _ _)
   | (with_reducible exact spec_l20Rd_pick.mono _ _ _ _)
   | (with_reducible exact LeO.refl _)
   | (with_reducible exact LeO.none _)
   | (with_reducible refine LeO.ite ?_ ?_)
   | (with_reducible refine LeO.bind ?_ (fun _ => ?_))
   | exact ih0 _ _ _ _ _ _ _
   | exact ih1 _ _ _ _ _ _
   | exact spec_l20Rd_odd.mono _ _ _ _
   | exact spec_l20Rd_pick.mono _ _ _ _
   | exact LeO.none _
   | refine LeO.ite ?_ ?_
   | refine LeO.bind ?_ (fun _ => ?_)
set_option maxHeartbeats 8000000 in
set_option maxRecDepth 100000 in
theorem spec_l20Value.calls (k : Nat) (g : Nat) (s0_0 : List Int) (s0_1 : Int) (a1 : Int) (a2 : Int) (r1 : Int) (r2 : Int) (r3 : Int) (w0 w : World) (hI : IsS80 w0 w g s0_0 s0_1) (hB : Below w0.heap.size w0 w) (h : spec_l20Value.f k s0_0 s0_1 a1 a2 = some (r1, r2, r3)) :
  Calls Try.prog 64 #[.pointer (some ⟨g, 0, none⟩), .int .i64 a1, .int .i64 a2] w fun e w' => e = .returned (.agg #[.int .i64 r1, .int .i64 r2]) ∧ IsS80 w0 w' g s0_0 r3 ∧ Below w0.heap.size w0 w' ∧ KeepBut w w' g none := by
 have hu52 := Try.underlying52
 have HI0 := Aside0.mk hI
 have HK := Aside0.mk (KeepBut.refl w g none)
 have HL := Aside0.mk hB.size
 have HG0 := Aside0.mk (IsS80.ge hI)
 clear hI
 have HW0 := Aside0.mk hB.size
 have HB := Aside0.mk hB
 clear hB
 have H : ((spec_l20Rd_pick.f k s0_0 s0_1 2).bind fun bt454 => ((spec_l20Rd_pick.f k s0_0 bt454.2 10).bind fun bt456 => ((spec_l20Rd_pick.f k s0_0 bt456.2 (mx 1 a1)).bind fun bt458 => ((some (([(⟨1, bt454.1⟩ : S52), (⟨2, bt456.1⟩ : S52), (⟨3, bt458.1⟩ : S52)] : List (S52)) : List (S52))).bind fun y460 => ((spec_l20Rd_pick.f k s0_0 bt458.2 3).bind fun bt463 => (if 0 ≤ bt463.1 then (if bt463.1 < (y460.length : Int) then (if a1 = 0 then (spec_l20Value.j0 k a1 a2 (((rd_T52 y460 bt463.1).f0) == 3) s0_0 bt463.2 ((rd_T52 y460 bt463.1).f0) ((rd_T52 y460 bt463.1).f1)) else (spec_l20Value.j0 k a1 a2 false s0_0 bt463.2 ((rd_T52 y460 bt463.1).f0) ((rd_T52 y460 bt463.1).f1))) else (none)) else (none))))))) = some (r1, r2, r3) := h
 clear h
 replace H := Option.bind_eq_some_iff.mp H
 obtain ⟨⟨t454, t455⟩, A40, H⟩ := H
 replace H : ((spec_l20Rd_pick.f k s0_0 t455 10).bind fun bt456 => ((spec_l20Rd_pick.f k s0_0 bt456.2 (mx 1 a1)).bind fun bt458 => ((some (([(⟨1, t454⟩ : S52), (⟨2, bt456.1⟩ : S52), (⟨3, bt458.1⟩ : S52)] : List (S52)) : List (S52))).bind fun y460 => ((spec_l20Rd_pick.f k s0_0 bt458.2 3).bind fun bt463 => (if 0 ≤ bt463.1 then (if bt463.1 < (y460.length : Int) then (if a1 = 0 then (spec_l20Value.j0 k a1 a2 (((rd_T52 y460 bt463.1).f0) == 3) s0_0 bt463.2 ((rd_T52 y460 bt463.1).f0) ((rd_T52 y460 bt463.1).f1)) else (spec_l20Value.j0 k a1 a2 false s0_0 bt463.2 ((rd_T52 y460 bt463.1).f0) ((rd_T52 y460 bt463.1).f1))) else (none)) else (none)))))) = some (r1, r2, r3) := H
 have A4 := Aside0.mk A40
 clear A40
 replace H := Option.bind_eq_some_iff.mp H
 obtain ⟨⟨t456, t457⟩, A50, H⟩ := H
 replace H : ((spec_l20Rd_pick.f k s0_0 t457 (mx 1 a1)).bind fun bt458 => ((some (([(⟨1, t454⟩ : S52), (⟨2, t456⟩ : S52), (⟨3, bt458.1⟩ : S52)] : List (S52)) : List (S52))).bind fun y460 => ((spec_l20Rd_pick.f k s0_0 bt458.2 3).bind fun bt463 => (if 0 ≤ bt463.1 then (if bt463.1 < (y460.length : Int) then (if a1 = 0 then (spec_l20Value.j0 k a1 a2 (((rd_T52 y460 bt463.1).f0) == 3) s0_0 bt463.2 ((rd_T52 y460 bt463.1).f0) ((rd_T52 y460 bt463.1).f1)) else (spec_l20Value.j0 k a1 a2 false s0_0 bt463.2 ((rd_T52 y460 bt463.1).f0) ((rd_T52 y460 bt463.1).f1))) else (none)) else (none))))) = some (r1, r2, r3) := H
 have A5 := Aside0.mk A50
 clear A50
 obtain ⟨ji6, hji6⟩ : ∃ j_ : Int, (mx 1 a1) = j_ := ⟨_, rfl⟩
 replace H : ((spec_l20Rd_pick.f k s0_0 t457 (ji6)).bind fun bt458 => ((some (([(⟨1, t454⟩ : S52), (⟨2, t456⟩ : S52), (⟨3, bt458.1⟩ : S52)] : List (S52)) : List (S52))).bind fun y460 => ((spec_l20Rd_pick.f k s0_0 bt458.2 3).bind fun bt463 => (if 0 ≤ bt463.1 then (if bt463.1 < (y460.length : Int) then (if a1 = 0 then (spec_l20Value.j0 k a1 a2 (((rd_T52 y460 bt463.1).f0) == 3) s0_0 bt463.2 ((rd_T52 y460 bt463.1).f0) ((rd_T52 y460 bt463.1).f1)) else (spec_l20Value.j0 k a1 a2 false s0_0 bt463.2 ((rd_T52 y460 bt463.1).f0) ((rd_T52 y460 bt463.1).f1))) else (none)) else (none))))) = some (r1, r2, r3) := by first | (rw [hji6] at H; exact H) | (simp only [hji6] at H ⊢; exact H)
 (try rw [hji6] at A4)
 (try rw [hji6] at A5)
 (try (have hji6l : 1 ≤ ji6 := by (rw [← hji6]; unfold mx; (repeat' split) <;> omega)))
 (try (have hji6m : 0 ≤ ji6 := by omega))
 have hji6_ : (if 1 < a1 then a1 else 1) = ji6 := hji6
 replace H := Option.bind_eq_some_iff.mp H
 obtain ⟨⟨t458, t459⟩, A70, H⟩ := H
 replace H : ((some (([(⟨1, t454⟩ : S52), (⟨2, t456⟩ : S52), (⟨3, t458⟩ : S52)] : List (S52)) : List (S52))).bind fun y460 => ((spec_l20Rd_pick.f k s0_0 t459 3).bind fun bt463 => (if 0 ≤ bt463.1 then (if bt463.1 < (y460.length : Int) then (if a1 = 0 then (spec_l20Value.j0 k a1 a2 (((rd_T52 y460 bt463.1).f0) == 3) s0_0 bt463.2 ((rd_T52 y460 bt463.1).f0) ((rd_T52 y460 bt463.1).f1)) else (spec_l20Value.j0 k a1 a2 false s0_0 bt463.2 ((rd_T52 y460 bt463.1).f0) ((rd_T52 y460 bt463.1).f1))) else (none)) else (none)))) = some (r1, r2, r3) := H
 have A7 := Aside0.mk A70
 clear A70
 obtain ⟨y460, hy460⟩ : ∃ y_ : List (S52), y_ = (([(⟨1, t454⟩ : S52), (⟨2, t456⟩ : S52), (⟨3, t458⟩ : S52)] : List (S52))) := ⟨_, rfl⟩
 replace H : ((spec_l20Rd_pick.f k s0_0 t459 3).bind fun bt463 => (if 0 ≤ bt463.1 then (if bt463.1 < (y460.length : Int) then (if a1 = 0 then (spec_l20Value.j0 k a1 a2 (((rd_T52 y460 bt463.1).f0) == 3) s0_0 bt463.2 ((rd_T52 y460 bt463.1).f0) ((rd_T52 y460 bt463.1).f1)) else (spec_l20Value.j0 k a1 a2 false s0_0 bt463.2 ((rd_T52 y460 bt463.1).f0) ((rd_T52 y460 bt463.1).f1))) else (none)) else (none))) = some (r1, r2, r3) := by first | (rw [hy460]; with_reducible exact H) | (have H2_ := (Option.bind_some _ _).symm.trans H; rw [hy460]; with_reducible exact H2_) | (have H2_ := (Option.bind_some _ _).symm.trans H; with_reducible exact H2_) | with_reducible exact H | (rw [hy460]; exact H) | exact H
 have Ny460 := Aside0.mk hy460
 clear hy460
 replace H := Option.bind_eq_some_iff.mp H
 obtain ⟨⟨t463, t464⟩, A80, H⟩ := H
 replace H : (if 0 ≤ t463 then (if t463 < (y460.length : Int) then (if a1 = 0 then (spec_l20Value.j0 k a1 a2 (((rd_T52 y460 t463).f0) == 3) s0_0 t464 ((rd_T52 y460 t463).f0) ((rd_T52 y460 t463).f1)) else (spec_l20Value.j0 k a1 a2 false s0_0 t464 ((rd_T52 y460 t463).f0) ((rd_T52 y460 t463).f1))) else (none)) else (none)) = some (r1, r2, r3) := H
 have A8 := Aside0.mk A80
 clear A80
 by_cases c9 : 0 ≤ t463
 ·
  rw [if_pos c9] at H; have c9b0 : decide (0 ≤ t463) = true := decide_eq_true c9; clear c9
  by_cases c10 : t463 < (y460.length : Int)
  ·
   rw [if_pos c10] at H; have c10b0 : decide (t463 < (y460.length : Int)) = true := decide_eq_true c10; clear c10
   have HC11 := Aside0.mk H
   clear H
   go_enter Try.func64, Try.ntmps64
   go_upto_region 2 with (first | ((with_reducible refine gate_dst (N := 6) rfl ?_); refine bx 6 #[.int .i64 0, .int .i64 0] 52 ?_; intro gb453 hg w12 hbox hb; replace HB := bS HB hb; have BK453 := Aside0.mk (hbox); have GW453 := gwK HK hg; have GE453 := gwE HW0 (gwK HK hg); replace HK := kTb HK hb; have NB0_453 := il80 HI0 hg; have NB453_0 := ir80 HI0 hg; replace HI0 := ib80 HI0 hb; clear hb hbox hg) | ((with_reducible refine gate_callee (f := 33) rfl ?_); refine gl (some 9) Try.func33 #[.pointer (some ⟨g, 0, none⟩), .int .i64 2] ?_; (with_reducible refine (spec_l20Rd_pick.calls k g s0_0 s0_1 2 t454 t455 w0 _ ?side1 ?side2 A4.out).mono ?_); (case side1 => exact sw80 HI0.out); (case side2 => exact bw HB.out); rintro e w13 ⟨rfl, hi, hb, hk⟩; refine ⟨_, rfl, ?_⟩; replace BK453 := kB hk BK453 NB453_0; replace HK := kT HK hk; replace HB := Aside0.mk (hb); replace HI0 := Aside0.mk (hi); (try clear hb); (try clear hb2); (try clear hk); (try clear hi)) | ((with_reducible refine gate_callee (f := 33) rfl ?_); refine gl (some 12) Try.func33 #[.pointer (some ⟨g, 0, none⟩), .int .i64 10] ?_; (with_reducible refine (spec_l20Rd_pick.calls k g s0_0 t455 10 t456 t457 w0 _ ?side1 ?side2 A5.out).mono ?_); (case side1 => exact sw80 HI0.out); (case side2 => exact bw HB.out); rintro e w14 ⟨rfl, hi, hb, hk⟩; refine ⟨_, rfl, ?_⟩; replace BK453 := kB hk BK453 NB453_0; replace HK := kT HK hk; replace HB := Aside0.mk (hb); replace HI0 := Aside0.mk (hi); (try clear hb); (try clear hb2); (try clear hk); (try clear hi)) | ((with_reducible refine gate_callee (f := 33) rfl ?_); refine goesL_ (some 17) rfl rfl Try.func33 (by kernel_rfl) rfl #[.pointer (some ⟨g, 0, none⟩), .int .i64 ji6] rfl (by (try simp only [List.map_toArray, List.map_cons, List.map_nil]); first | done | (simp only [hji6]; rfl) | rfl | (simp only [List.length_drop, List.length_take]; rfl)) ?_; (with_reducible refine (spec_l20Rd_pick.calls k g s0_0 t457 ji6 t458 t459 w0 _ ?side1 ?side2 A7.out).mono ?_); (case side1 => exact sw80 HI0.out); (case side2 => exact bw HB.out); rintro e w15 ⟨rfl, hi, hb, hk⟩; refine ⟨_, rfl, ?_⟩; replace BK453 := kB hk BK453 NB453_0; replace HK := kT HK hk; replace HB := Aside0.mk (hb); replace HI0 := Aside0.mk (hi); (try clear hb); (try clear hb2); (try clear hk); (try clear hi)) | ((with_reducible refine gate_dst (N := 19) rfl ?_); refine Kd.R_lit k52 _ 52 ?hg (N := 19) ?hd (xs := ([(⟨1, t454⟩ : S52), (⟨2, t456⟩ : S52), (⟨3, t458⟩ : S52)] : List (S52))) (inner := [.int .i64 1, .int .i64 t454, .int .i64 2, .int .i64 t456, .int .i64 3, .int .i64 t458]) (ok := fun _ => True) (okp := fun _ => True) ?hr ?hp (fun _ hk => hk) trivial (Below.refl _ _) (Nat.le_refl _) (by simp) ?_; (case hd => rfl); (case hg => rfl); (case hr => first | (go_simp; done) | (go_simp; rfl)); (case hp => exact (Reps.c2 (show Kd.M k52 _ _ _ (⟨1, t454⟩ : S52) [.int .i64 1, .int .i64 t454] from (k52_mkM _ _ _ (⟨1, t454⟩ : S52) )) (Reps.c2 (show Kd.M k52 _ _ _ (⟨2, t456⟩ : S52) [.int .i64 2, .int .i64 t456] from (k52_mkM _ _ _ (⟨2, t456⟩ : S52) )) (Reps.c2 (show Kd.M k52 _ _ _ (⟨3, t458⟩ : S52) [.int .i64 3, .int .i64 t458] from (k52_mkM _ _ _ (⟨3, t458⟩ : S52) )) (Reps.none _ _))))); intro v461 w16 ho17 hb hg_ hnew_; clear hg_ hnew_; (first | rw [← Ny460.out] at ho17 | (simp only [Int.reduceToNat] at ho17; rw [← Ny460.out] at ho17)); have HO462 := Aside0.mk (Kd.R_lower (Kd.R_newB ho17 (g := gb453) (o := .cells #[.int .i64 0, .int .i64 0] 52 (0, 0)) (by exact bk BK453.out)) (kz HK)); replace HI0 := ib80 HI0 hb; replace BK453 := bB BK453 hb; replace HK := kTb HK hb; replace HB := bS HB hb; clear hb ho17) | ((with_reducible refine gate_callee (f := 33) rfl ?_); refine gl (some 21) Try.func33 #[.pointer (some ⟨g, 0, none⟩), .int .i64 3] ?_; (with_reducible refine (spec_l20Rd_pick.calls k g s0_0 t459 3 t463 t464 w0 _ ?side1 ?side2 A8.out).mono ?_); (case side1 => exact sw80 HI0.out); (case side2 => exact bw HB.out); rintro e w18 ⟨rfl, hi, hb, hk⟩; refine ⟨_, rfl, ?_⟩; replace BK453 := kB hk BK453 NB453_0; replace HO462 := Aside0.mk (Kd.R_mono (Kd.R_keep (IsS80.apart (show IsS80 w0 _ g s0_0 t459 from by exact sw80 HI0.out) (by exact Kd.xR HO462.out) (by decide)) hk (fun _ h => h.2)) (fun _ h => h.1)); replace HK := kT HK hk; replace HB := Aside0.mk (hb); replace HI0 := Aside0.mk (hi); (try clear hb); (try clear hb2); (try clear hk); (try clear hi); obtain ⟨Ao19, co19, eo19⟩ := Kd.R_slice HO462.out; subst eo19; have p465 : 0 ≤ (t463 : Int) := of_decide_eq_true (by first | (with_reducible assumption) | assumption); have q465 : t463 < (y460.length : Int) := of_decide_eq_true (by first | (with_reducible assumption) | assumption); obtain ⟨ad465, e465, hx465_0, hx465_1⟩ := at_T52 (Kd.R_reads' HO462.out).2.2 t463 p465 q465; cases e465; replace p465 := eq_true p465; replace q465 := eq_true q465) | ((with_reducible refine gate_dst (N := 7) rfl ?_); refine bx 7 #[.int .i64 0, .int .i64 0] 52 ?_; intro gb466 hg w20 hbox hb; replace HO462 := Aside0.mk (Kd.R_below (Kd.R_elderB (by exact Kd.xR HO462.out) gb466 (Nat.le_of_eq hg.symm)) hb); replace HB := bS HB hb; have BK466 := Aside0.mk (hbox); have GW466 := gwK HK hg; have GE466 := gwE HW0 (gwK HK hg); replace HK := kTb HK hb; have NB453_466 := nbL BK453 hg; have NB466_453 := nbR BK453 hg; replace BK453 := bB BK453 hb; have NB0_466 := il80 HI0 hg; have NB466_0 := ir80 HI0 hg; replace HI0 := ib80 HI0 hb; clear hb hbox hg; have hnb21 := NB466_453.out; have hnc21 := NB453_466.out; have hnb22 := NB466_0.out; have hnc22 := NB0_466.out; obtain ⟨hcz23_0, hcz23_1⟩ := cs2 BK466.out; obtain ⟨hfz23_0, hfz23_1⟩ := fz2 BK466.out))
   (try simp only [Act.put, List.setIfInBounds_toArray, List.set_cons_zero, List.set_cons_succ])
   go_cut [30] (fun v30 wc => ∃ (kq : Nat) (x30_10 : Bool), v30 = .bool x30_10 ∧ Aside0 (spec_l20Value.j0 kq a1 a2 x30_10 s0_0 t464 ((rd_T52 y460 t463).f0) ((rd_T52 y460 t463).f1) = some (r1, r2, r3)) ∧ Aside0 (kq ≤ k) ∧ Aside0 (wc.heap[gb453]? = some (.cells #[.int .i64 0, .int .i64 0] 52 (0, 0))) ∧ Aside0 (wc.heap[gb466]? = some (.cells #[.int .i64 ((rd_T52 y460 t463).f0), .int .i64 ((rd_T52 y460 t463).f1)] 52 (0, 0))) ∧ Aside0 (IsS80 w0 wc g s0_0 t464) ∧ Aside0 (KeepBut w wc g none) ∧ Aside0 (Below w0.heap.size w0 wc))
   case first =>
    have H := HC11.out
    clear HC11
    by_cases c24 : a1 = 0
    ·
     rw [if_pos c24] at H; obtain ⟨c24b0, c24b1⟩ := eqY c24; clear c24
     (first | rw [c24b0] | (simp only [i64_w, i32_w]; rw [c24b0]) | rw [c24b2] | rw [c24b1] | skip)
     have H' := Aside0.mk H
     clear H
     have hnb25 := NB466_453.out
     have hnc25 := NB453_466.out
     have hnb26 := NB466_0.out
     have hnc26 := NB0_466.out
     have hcz27_0 : w20.cell? ⟨gb466, 0, none⟩ = some (.int .i64 0) := (blk_cell BK466.out 0).trans rfl
     have hcz27_1 : w20.cell? ⟨gb466, 1, none⟩ = some (.int .i64 0) := (blk_cell BK466.out 1).trans rfl
     have hfz27_0 := blk_frozen BK466.out 0
     have hfz27_1 := blk_frozen BK466.out 1
     go_wp2
     go_meet
     case rel => exact ⟨_, ((((rd_T52 y460 t463).f0) == 3)), (by first | rfl | (simp; done) | (simp [*]; done)), H', ⟨by first | omega | exact Nat.le_refl _⟩, ⟨by (with_reducible repeat (first | refine blk_drewN ?_ _ | refine blk_drew ?_ | refine blk_alloc ?_ _)); refine blk_far ?_ NB453_466.out _; (with_reducible repeat (first | refine blk_drewN ?_ _ | refine blk_drew ?_ | refine blk_alloc ?_ _)); refine blk_far ?_ NB453_466.out _; exact bk BK453.out⟩, ⟨by (with_reducible repeat (first | refine blk_drewN ?_ _ | refine blk_drew ?_ | refine blk_alloc ?_ _)); refine blk_put (cs := #[.int .i64 ((rd_T52 y460 t463).f0), .int .i64 0]) ?_ 1 _ rfl; (with_reducible repeat (first | refine blk_drewN ?_ _ | refine blk_drew ?_ | refine blk_alloc ?_ _)); refine blk_put (cs := #[.int .i64 0, .int .i64 0]) ?_ 0 _ rfl; exact bk BK466.out⟩, ⟨by exact sw80 HI0.out⟩, ⟨by exact kw HK.out⟩, ⟨by exact bw HB.out⟩⟩
    ·
     rw [if_neg c24] at H; obtain ⟨c24b0, c24b1⟩ := eqN c24
     (first | rw [c24b0] | (simp only [i64_w, i32_w]; rw [c24b0]) | rw [c24b2] | rw [c24b1] | skip)
     have H' := Aside0.mk H
     clear H
     go_wp2
     go_meet
     case rel => exact ⟨_, (false), (by first | rfl | (simp; done) | (simp [*]; done)), H', ⟨by first | omega | exact Nat.le_refl _⟩, ⟨by (with_reducible repeat (first | refine blk_drewN ?_ _ | refine blk_drew ?_ | refine blk_alloc ?_ _)); refine blk_far ?_ NB453_466.out _; (with_reducible repeat (first | refine blk_drewN ?_ _ | refine blk_drew ?_ | refine blk_alloc ?_ _)); refine blk_far ?_ NB453_466.out _; exact bk BK453.out⟩, ⟨by (with_reducible repeat (first | refine blk_drewN ?_ _ | refine blk_drew ?_ | refine blk_alloc ?_ _)); refine blk_put (cs := #[.int .i64 ((rd_T52 y460 t463).f0), .int .i64 0]) ?_ 1 _ rfl; (with_reducible repeat (first | refine blk_drewN ?_ _ | refine blk_drew ?_ | refine blk_alloc ?_ _)); refine blk_put (cs := #[.int .i64 0, .int .i64 0]) ?_ 0 _ rfl; exact bk BK466.out⟩, ⟨by exact sw80 HI0.out⟩, ⟨by exact kw HK.out⟩, ⟨by exact bw HB.out⟩⟩
   case rest =>
    clear HC11
    try clear c1
    try clear c2
    try clear p2
    try clear c3
    try clear p4
    try clear q4
    try clear hx4
    try clear c6
    try clear c9
    try clear c9b0
    try clear c10
    try clear c10b0
    try clear c21
    try clear c22
    try clear c24
    try clear c24b0
    try clear c24b1
    try clear c24b2
    try clear c25
    try clear c26
    try clear hcz23_0
    try clear hcz23_1
    try clear hcz27_0
    try clear hcz27_1
    try clear hfz23_0
    try clear hfz23_1
    try clear hfz27_0
    try clear hfz27_1
    try clear hx465_0
    try clear hx465_1
    try clear p465
    try clear q465
    obtain ⟨kq, x30_10, rfl, HA, HJ10, BK453, BK466, HI0, HK, HB⟩ := hcut
    cases kq with
    | zero => exact absurd HA.out (by simp [spec_l20Value.j0])
    | succ kj10 =>
     have H := HA.out
     clear HA
     simp only [spec_l20Value.j0] at H
     have HC28 := Aside0.mk H
     clear H
     go_upto_if 30 with (fail)
     go_cut [] (fun wc => ∃ (kq : Nat) (x467000_27 : Int) (x467001_27 : Int), Aside0 (spec_l20Value.j1 kq a1 a2 s0_0 t464 x467000_27 x467001_27 = some (r1, r2, r3)) ∧ Aside0 (kq ≤ kj10) ∧ Aside0 (wc.heap[gb453]? = some (.cells #[.int .i64 0, .int .i64 0] 52 (0, 0))) ∧ Aside0 (wc.heap[gb466]? = some (.cells #[.int .i64 x467000_27, .int .i64 x467001_27] 52 (0, 0))) ∧ Aside0 (IsS80 w0 wc g s0_0 t464) ∧ Aside0 (KeepBut w wc g none) ∧ Aside0 (Below w0.heap.size w0 wc))
     case first =>
      have H := HC28.out
      clear HC28
      by_cases c29 : x30_10 = true
      ·
       subst c29
       have H1 : (spec_l20Value.j1 kj10 a1 a2 s0_0 t464 2 99) = some (r1, r2, r3) := by rw [if_pos rfl] at H; exact H
       clear H
       have H := H1
       clear H1
       have H' := Aside0.mk H
       clear H
       have hnb30 := NB466_453.out
       have hnc30 := NB453_466.out
       have hnb31 := NB466_0.out
       have hnc31 := NB0_466.out
       have hcz32_0 : wc.cell? ⟨gb466, 0, none⟩ = some (.int .i64 ((rd_T52 y460 t463).f0)) := (blk_cell BK466.out 0).trans rfl
       have hcz32_1 : wc.cell? ⟨gb466, 1, none⟩ = some (.int .i64 ((rd_T52 y460 t463).f1)) := (blk_cell BK466.out 1).trans rfl
       have hfz32_0 := blk_frozen BK466.out 0
       have hfz32_1 := blk_frozen BK466.out 1
       go_wp2
       go_meet
       case rel => exact ⟨_, (2), (99), H', ⟨by have := HJ10.out; first | omega | exact Nat.le_refl _⟩, ⟨by (with_reducible repeat (first | refine blk_drewN ?_ _ | refine blk_drew ?_ | refine blk_alloc ?_ _)); refine blk_far ?_ NB453_466.out _; (with_reducible repeat (first | refine blk_drewN ?_ _ | refine blk_drew ?_ | refine blk_alloc ?_ _)); refine blk_far ?_ NB453_466.out _; exact bk BK453.out⟩, ⟨by (with_reducible repeat (first | refine blk_drewN ?_ _ | refine blk_drew ?_ | refine blk_alloc ?_ _)); refine blk_put (cs := #[.int .i64 2, .int .i64 ((rd_T52 y460 t463).f1)]) ?_ 1 _ rfl; (with_reducible repeat (first | refine blk_drewN ?_ _ | refine blk_drew ?_ | refine blk_alloc ?_ _)); refine blk_put (cs := #[.int .i64 ((rd_T52 y460 t463).f0), .int .i64 ((rd_T52 y460 t463).f1)]) ?_ 0 _ rfl; exact bk BK466.out⟩, ⟨by exact sw80 HI0.out⟩, ⟨by exact kw HK.out⟩, ⟨by exact bw HB.out⟩⟩
      ·
       replace c29 := Bool.eq_false_iff.mpr c29
       subst c29
       have H1 : (spec_l20Value.j1 kj10 a1 a2 s0_0 t464 ((rd_T52 y460 t463).f0) ((rd_T52 y460 t463).f1)) = some (r1, r2, r3) := by rw [if_neg (show ¬ (false = true) by decide)] at H; exact H
       clear H
       have H := H1
       clear H1
       have H' := Aside0.mk H
       clear H
       go_wp2
       go_meet
       case rel => exact ⟨_, (((rd_T52 y460 t463).f0)), (((rd_T52 y460 t463).f1)), H', ⟨by have := HJ10.out; first | omega | exact Nat.le_refl _⟩, ⟨by exact bk BK453.out⟩, ⟨by exact bk BK466.out⟩, ⟨by exact sw80 HI0.out⟩, ⟨by exact kw HK.out⟩, ⟨by exact bw HB.out⟩⟩
     case rest =>
      clear HC28
      try clear c1
      try clear c2
      try clear p2
      try clear c3
      try clear p4
      try clear q4
      try clear hx4
      try clear c6
      try clear c9
      try clear c9b0
      try clear c10
      try clear c10b0
      try clear c21
      try clear c22
      try clear c24
      try clear c24b0
      try clear c24b1
      try clear c24b2
      try clear c25
      try clear c26
      try clear c29
      try clear c30
      try clear c31
      try clear hcz23_0
      try clear hcz23_1
      try clear hcz27_0
      try clear hcz27_1
      try clear hcz32_0
      try clear hcz32_1
      try clear hfz23_0
      try clear hfz23_1
      try clear hfz27_0
      try clear hfz27_1
      try clear hfz32_0
      try clear hfz32_1
      try clear hx465_0
      try clear hx465_1
      try clear p2
      try clear p4
      try clear p465
      try clear q4
      try clear q465
      obtain ⟨kq, x467000_27, x467001_27, HA, HJ27, BK453, BK466, HI0, HK, HB⟩ := hcut
      cases kq with
      | zero => exact absurd HA.out (by simp [spec_l20Value.j1])
      | succ kj27 =>
       have H := HA.out
       clear HA
       simp only [spec_l20Value.j1] at H
       replace H := Option.bind_eq_some_iff.mp H
       obtain ⟨⟨t467, t468⟩, A330, H⟩ := H
       replace H : (if t467 = true then ((some (([(⟨0, 0⟩ : S52), (⟨1, 2⟩ : S52), (⟨2, 100⟩ : S52), (⟨3, a1⟩ : S52), (⟨4, 0⟩ : S52), (⟨2, (-1)⟩ : S52)] : List (S52)) : List (S52))).bind fun y469 => ((spec_l20Rd_pick.f kj27 s0_0 t468 6).bind fun bt472 => (if 0 ≤ bt472.1 then (if bt472.1 < (y469.length : Int) then (some ((rd_T52 y469 bt472.1).f0, (rd_T52 y469 bt472.1).f1, bt472.2)) else (none)) else (none)))) else (some (x467000_27, x467001_27, t468))) = some (r1, r2, r3) := H
       have A33 := Aside0.mk A330
       clear A330
       by_cases c34 : t467 = true
       ·
        subst c34
        have H1 : ((some (([(⟨0, 0⟩ : S52), (⟨1, 2⟩ : S52), (⟨2, 100⟩ : S52), (⟨3, a1⟩ : S52), (⟨4, 0⟩ : S52), (⟨2, (-1)⟩ : S52)] : List (S52)) : List (S52))).bind fun y469 => ((spec_l20Rd_pick.f kj27 s0_0 t468 6).bind fun bt472 => (if 0 ≤ bt472.1 then (if bt472.1 < (y469.length : Int) then (some ((rd_T52 y469 bt472.1).f0, (rd_T52 y469 bt472.1).f1, bt472.2)) else (none)) else (none)))) = some (r1, r2, r3) := by rw [if_pos rfl] at H; exact H
        clear H
        have H := H1
        clear H1
        obtain ⟨y469, hy469⟩ : ∃ y_ : List (S52), y_ = (([(⟨0, 0⟩ : S52), (⟨1, 2⟩ : S52), (⟨2, 100⟩ : S52), (⟨3, a1⟩ : S52), (⟨4, 0⟩ : S52), (⟨2, (-1)⟩ : S52)] : List (S52))) := ⟨_, rfl⟩
        replace H : ((spec_l20Rd_pick.f kj27 s0_0 t468 6).bind fun bt472 => (if 0 ≤ bt472.1 then (if bt472.1 < (y469.length : Int) then (some ((rd_T52 y469 bt472.1).f0, (rd_T52 y469 bt472.1).f1, bt472.2)) else (none)) else (none))) = some (r1, r2, r3) := by first | (rw [hy469]; with_reducible exact H) | (have H2_ := (Option.bind_some _ _).symm.trans H; rw [hy469]; with_reducible exact H2_) | (have H2_ := (Option.bind_some _ _).symm.trans H; with_reducible exact H2_) | with_reducible exact H | (rw [hy469]; exact H) | exact H
        have Ny469 := Aside0.mk hy469
        clear hy469
        replace H := Option.bind_eq_some_iff.mp H
        obtain ⟨⟨t472, t473⟩, A350, H⟩ := H
        replace H : (if 0 ≤ t472 then (if t472 < (y469.length : Int) then (some ((rd_T52 y469 t472).f0, (rd_T52 y469 t472).f1, t473)) else (none)) else (none)) = some (r1, r2, r3) := H
        have A35 := Aside0.mk A350
        clear A350
        by_cases c36 : 0 ≤ t472
        ·
         rw [if_pos c36] at H; have c36b0 : decide (0 ≤ t472) = true := decide_eq_true c36; clear c36
         by_cases c37 : t472 < (y469.length : Int)
         ·
          rw [if_pos c37] at H; have c37b0 : decide (t472 < (y469.length : Int)) = true := decide_eq_true c37; clear c37
          simp only [Option.some.injEq, Prod.mk.injEq] at H
          obtain ⟨rfl, rfl, rfl⟩ := H
          go_wp2_with (first | ((with_reducible refine gate_callee (f := 42) rfl ?_); refine gl (some 34) Try.func42 #[.pointer (some ⟨g, 0, none⟩), .int .i64 a2] ?_; (with_reducible refine (spec_l20Rd_odd.calls kj27 g s0_0 t464 a2 true t468 w0 _ ?side1 ?side2 A33.out).mono ?_); (case side1 => exact sw80 HI0.out); (case side2 => exact bw HB.out); rintro e w38 ⟨rfl, hi, hb, hk⟩; refine ⟨_, rfl, ?_⟩; replace BK453 := kB hk BK453 NB453_0; replace BK466 := kB hk BK466 NB466_0; replace HK := kT HK hk; replace HB := Aside0.mk (hb); replace HI0 := Aside0.mk (hi); (try clear hb); (try clear hb2); (try clear hk); (try clear hi)) | ((with_reducible refine gate_dst (N := 42) rfl ?_); refine Kd.R_lit k52 _ 52 ?hg (N := 42) ?hd (xs := ([(⟨0, 0⟩ : S52), (⟨1, 2⟩ : S52), (⟨2, 100⟩ : S52), (⟨3, a1⟩ : S52), (⟨4, 0⟩ : S52), (⟨2, (-1)⟩ : S52)] : List (S52))) (inner := [.int .i64 0, .int .i64 0, .int .i64 1, .int .i64 2, .int .i64 2, .int .i64 100, .int .i64 3, .int .i64 a1, .int .i64 4, .int .i64 0, .int .i64 2, .int .i64 (-1)]) (ok := fun _ => True) (okp := fun _ => True) ?hr ?hp (fun _ hk => hk) trivial (Below.refl _ _) (Nat.le_refl _) (by simp) ?_; (case hd => rfl); (case hg => rfl); (case hr => first | (go_simp; done) | (go_simp; rfl)); (case hp => exact (Reps.c2 (show Kd.M k52 _ _ _ (⟨0, 0⟩ : S52) [.int .i64 0, .int .i64 0] from (k52_mkM _ _ _ (⟨0, 0⟩ : S52) )) (Reps.c2 (show Kd.M k52 _ _ _ (⟨1, 2⟩ : S52) [.int .i64 1, .int .i64 2] from (k52_mkM _ _ _ (⟨1, 2⟩ : S52) )) (Reps.c2 (show Kd.M k52 _ _ _ (⟨2, 100⟩ : S52) [.int .i64 2, .int .i64 100] from (k52_mkM _ _ _ (⟨2, 100⟩ : S52) )) (Reps.c2 (show Kd.M k52 _ _ _ (⟨3, a1⟩ : S52) [.int .i64 3, .int .i64 a1] from (k52_mkM _ _ _ (⟨3, a1⟩ : S52) )) (Reps.c2 (show Kd.M k52 _ _ _ (⟨4, 0⟩ : S52) [.int .i64 4, .int .i64 0] from (k52_mkM _ _ _ (⟨4, 0⟩ : S52) )) (Reps.c2 (show Kd.M k52 _ _ _ (⟨2, (-1)⟩ : S52) [.int .i64 2, .int .i64 (-1)] from (k52_mkM _ _ _ (⟨2, (-1)⟩ : S52) )) (Reps.none _ _)))))))); intro v470 w39 ho40 hb hg_ hnew_; clear hg_ hnew_; (first | rw [← Ny469.out] at ho40 | (simp only [Int.reduceToNat] at ho40; rw [← Ny469.out] at ho40)); have HO471 := Aside0.mk (Kd.R_lower (Kd.R_newB (Kd.R_newB ho40 (g := gb453) (o := .cells #[.int .i64 0, .int .i64 0] 52 (0, 0)) (by exact bk BK453.out)) (g := gb466) (o := .cells #[.int .i64 x467000_27, .int .i64 x467001_27] 52 (0, 0)) (by exact bk BK466.out)) (kz HK)); replace BK453 := bB BK453 hb; replace BK466 := bB BK466 hb; replace HI0 := ib80 HI0 hb; replace HK := kTb HK hb; replace HB := bS HB hb; clear hb ho40) | ((with_reducible refine gate_callee (f := 33) rfl ?_); refine gl (some 44) Try.func33 #[.pointer (some ⟨g, 0, none⟩), .int .i64 6] ?_; (with_reducible refine (spec_l20Rd_pick.calls kj27 g s0_0 t468 6 t472 t473 w0 _ ?side1 ?side2 A35.out).mono ?_); (case side1 => exact sw80 HI0.out); (case side2 => exact bw HB.out); rintro e w41 ⟨rfl, hi, hb, hk⟩; refine ⟨_, rfl, ?_⟩; replace BK453 := kB hk BK453 NB453_0; replace BK466 := kB hk BK466 NB466_0; replace HO471 := Aside0.mk (Kd.R_mono (Kd.R_keep (IsS80.apart (show IsS80 w0 _ g s0_0 t468 from by exact sw80 HI0.out) (by exact Kd.xR HO471.out) (by decide)) hk (fun _ h => h.2)) (fun _ h => h.1)); replace HK := kT HK hk; replace HB := Aside0.mk (hb); replace HI0 := Aside0.mk (hi); (try clear hb); (try clear hb2); (try clear hk); (try clear hi); obtain ⟨Ao42, co42, eo42⟩ := Kd.R_slice HO471.out; subst eo42; have p474 : 0 ≤ (t472 : Int) := of_decide_eq_true (by first | (with_reducible assumption) | assumption); have q474 : t472 < (y469.length : Int) := of_decide_eq_true (by first | (with_reducible assumption) | assumption); obtain ⟨ad474, e474, hx474_0, hx474_1⟩ := at_T52 (Kd.R_reads' HO471.out).2.2 t472 p474 q474; cases e474; replace p474 := eq_true p474; replace q474 := eq_true q474; have hnb43 := NB453_466.out; have hnc43 := NB466_453.out; have hnb44 := NB453_0.out; have hnc44 := NB0_453.out; obtain ⟨hcz45_0, hcz45_1⟩ := cs2 BK453.out; obtain ⟨hfz45_0, hfz45_1⟩ := fz2 BK453.out))
          refine bodyPost_ret (results_cell_row rfl _ _ gb453 52 #[.int .i64 ((rd_T52 y469 t472).f0), .int .i64 ((rd_T52 y469 t472).f1)] (0, 0) _ rfl (bp BK453) Try.underlying52 rfl (by kernel_rfl)) rfl ?_
          exact ⟨by first | rfl | (simp [errW_none, errW_some] <;> rfl) | (simp only [← hji6]; first | rfl | (simp [errW_none, errW_some] <;> rfl)) | (simp [*, errW_none, errW_some] <;> rfl), by exact sw80 HI0.out, by exact bw HB.out, by exact kw HK.out⟩
         ·
          rw [if_neg c37] at H; exact absurd H (by simp)
        ·
         rw [if_neg c36] at H; exact absurd H (by simp)
       ·
        replace c34 := Bool.eq_false_iff.mpr c34
        subst c34
        have H1 : (some (x467000_27, x467001_27, t468)) = some (r1, r2, r3) := by rw [if_neg (show ¬ (false = true) by decide)] at H; exact H
        clear H
        have H := H1
        clear H1
        simp only [Option.some.injEq, Prod.mk.injEq] at H
        obtain ⟨rfl, rfl, rfl⟩ := H
        go_wp2_with (first | ((with_reducible refine gate_callee (f := 42) rfl ?_); refine gl (some 34) Try.func42 #[.pointer (some ⟨g, 0, none⟩), .int .i64 a2] ?_; (with_reducible refine (spec_l20Rd_odd.calls kj27 g s0_0 t464 a2 false t468 w0 _ ?side1 ?side2 A33.out).mono ?_); (case side1 => exact sw80 HI0.out); (case side2 => exact bw HB.out); rintro e w46 ⟨rfl, hi, hb, hk⟩; refine ⟨_, rfl, ?_⟩; replace BK453 := kB hk BK453 NB453_0; replace BK466 := kB hk BK466 NB466_0; replace HK := kT HK hk; replace HB := Aside0.mk (hb); replace HI0 := Aside0.mk (hi); (try clear hb); (try clear hb2); (try clear hk); (try clear hi); have hnb47 := NB466_453.out; have hnc47 := NB453_466.out; have hnb48 := NB466_0.out; have hnc48 := NB0_466.out; obtain ⟨hcz49_0, hcz49_1⟩ := cs2 BK466.out; obtain ⟨hfz49_0, hfz49_1⟩ := fz2 BK466.out; have hnb50 := NB453_0.out; have hnc50 := NB0_453.out; obtain ⟨hcz51_0, hcz51_1⟩ := cs2 BK453.out; obtain ⟨hfz51_0, hfz51_1⟩ := fz2 BK453.out))
        refine bodyPost_ret (results_cell_row rfl _ _ gb453 52 #[.int .i64 x467000_27, .int .i64 x467001_27] (0, 0) _ rfl (bp BK453) Try.underlying52 rfl (by kernel_rfl)) rfl ?_
        exact ⟨by first | rfl | (simp [errW_none, errW_some] <;> rfl) | (simp only [← hji6]; first | rfl | (simp [errW_none, errW_some] <;> rfl)) | (simp [*, errW_none, errW_some] <;> rfl), by exact sw80 HI0.out, by exact bw HB.out, by exact kw HK.out⟩
  ·
   rw [if_neg c10] at H; exact absurd H (by simp)
 ·
  rw [if_neg c9] at H; exact absurd H (by simp)

end Go.Proofs.Ytoipfhdlgoaldaa.P
