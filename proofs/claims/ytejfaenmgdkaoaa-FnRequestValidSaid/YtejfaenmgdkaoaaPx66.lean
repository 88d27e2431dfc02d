-- Written by a program of this session (wip/tool).
import Derived.Test.YtejfaenmgdkaoaaPx0
import Derived.Test.YtejfaenmgdkaoaaPx2
import Derived.Test.YtejfaenmgdkaoaaPx3
namespace Go.Proofs.Ytejfaenmgdkaoaa.P
open Go.RowKit Go.Proofs.YtejfaenmgdkaoaaW.PrintWords Go.Proofs.YtejfaenmgdkaoaaW.PrintLast Go.Proofs.YtejfaenmgdkaoaaW.PrintMore
attribute [local go_sem] max2_int min2_int max_two min_two max_three min_three max_four min_four   -- for this text's walks alone
set_option linter.unusedVariables false
set_option linter.unusedSimpArgs false

/-! ### spec_l20Value: function 84 -/
mutual
def spec_l20Value.j0 : Nat → Int → Int → Bool → List Int → Int → Int → Int → Option (Int × Int × Int)
 | 0, _, _, _, _, _, _, _ => none
 | k + 1, x1, x2, x30, x1000, x1001, x565000, x565001 => if x30 = true then (spec_l20Value.j1 k x1 x2 x1000 x1001 2 99) else (spec_l20Value.j1 k x1 x2 x1000 x1001 x565000 x565001)
def spec_l20Value.j1 : Nat → Int → Int → List Int → Int → Int → Int → Option (Int × Int × Int)
 | 0, _, _, _, _, _, _ => none
 | k + 1, x1, x2, x1000, x1001, x565000, x565001 => (spec_l20Rd_odd.f k x1000 x1001 x2).bind fun bt565 => (if bt565.1 = true then ((some (([(⟨0, 0⟩ : S45), (⟨1, 2⟩ : S45), (⟨2, 100⟩ : S45), (⟨3, x1⟩ : S45), (⟨4, 0⟩ : S45), (⟨2, (-1)⟩ : S45)] : List (S45)) : List (S45))).bind fun y567 => ((spec_l20Rd_pick.f k x1000 bt565.2 6).bind fun bt570 => (if 0 ≤ bt570.1 then (if bt570.1 < (y567.length : Int) then (some ((rd_T45 y567 bt570.1).f0, (rd_T45 y567 bt570.1).f1, bt570.2)) else (none)) else (none)))) else (some (x565000, x565001, bt565.2)))
end
def spec_l20Value.f (k : Nat) (s0_0 : List Int) (s0_1 : Int) (a1 : Int) (a2 : Int) : Option (Int × Int × Int) := (spec_l20Rd_pick.f k s0_0 s0_1 2).bind fun bt552 => ((spec_l20Rd_pick.f k s0_0 bt552.2 10).bind fun bt554 => ((spec_l20Rd_pick.f k s0_0 bt554.2 (mx 1 a1)).bind fun bt556 => ((some (([(⟨1, bt552.1⟩ : S45), (⟨2, bt554.1⟩ : S45), (⟨3, bt556.1⟩ : S45)] : List (S45)) : List (S45))).bind fun y558 => ((spec_l20Rd_pick.f k s0_0 bt556.2 3).bind fun bt561 => (if 0 ≤ bt561.1 then (if bt561.1 < (y558.length : Int) then (if a1 = 0 then (spec_l20Value.j0 k a1 a2 (((rd_T45 y558 bt561.1).f0) == 3) s0_0 bt561.2 ((rd_T45 y558 bt561.1).f0) ((rd_T45 y558 bt561.1).f1)) else (spec_l20Value.j0 k a1 a2 false s0_0 bt561.2 ((rd_T45 y558 bt561.1).f0) ((rd_T45 y558 bt561.1).f1))) else (none)) else (none))))))
theorem spec_l20Value.mono_l : ∀ k, (∀ y0 y1 y2 y3 y4 y5 y6, LeO (spec_l20Value.j0 k y0 y1 y2 y3 y4 y5 y6) (spec_l20Value.j0 (k + 1) y0 y1 y2 y3 y4 y5 y6)) ∧ (∀ y0 y1 y2 y3 y4 y5, LeO (spec_l20Value.j1 k y0 y1 y2 y3 y4 y5) (spec_l20Value.j1 (k + 1) y0 y1 y2 y3 y4 y5))
 | 0 => ⟨fun _ _ _ _ _ _ _ r h => by simp [spec_l20Value.j0] at h, fun _ _ _ _ _ _ r h => by simp [spec_l20Value.j1] at h⟩
 | k + 1 => by
  obtain ⟨ih0, ih1⟩ := spec_l20Value.mono_l k
  refine ⟨?_, ?_⟩
  ·
   intro y0 y1 y2 y3 y4 y5 y6
   unfold spec_l20Value.j0
   repeat' first
   | (with_reducible exact ih0 _ _ _ _ _ _ _)
   | (with_reducible exact ih1 _ _ _ _ _ _)
   | (with_reducible exact spec_l20Rd_odd.mono _ _ _ _)
   | (with_reducible exact spec_l20Rd_pick.mono _ _ _ _)
   | (with_reducible exact LeO.refl _)
   | (with_reducible exact LeO.none _)
   | (with_reducible refine LeO.ite ?_ ?_)
   | (with_reducible refine LeO.bind ?_ (fun _ => ?_))
   | exact ih0 _ _ _ _ _ _ _
   | exact ih1 _ _ _ _ _ _
   | exact spec_l20Rd_odd.mono _ _ _ _
   | exact spec_l20Rd_pick.mono _ _ _ _
   | exact LeO.none _
   | refine LeO.ite ?_ ?_
   | refine LeO.bind ?_ (fun _ => ?_)
  ·
   intro y0 y1 y2 y3 y4 y5
   unfold spec_l20Value.j1
   repeat' first
   | (with_reducible exact ih0 _ _ _ _ _ _ _)
   | (with_reducible exact ih1 _ _ _ _ _ _)
   | (with_reducible exact spec_l20Rd_odd.mono _ _ _ _)
   | (with_reducible exact spec_l20Rd_pick.mono _ _ _ _)
   | (with_reducible exact LeO.refl _)
   | (with_reducible exact LeO.none _)
   | (with_reducible refine LeO.ite ?_ ?_)
   | (with_reducible refine LeO.bind ?_ (fun _ => ?_))
   | exact ih0 _ _ _ _ _ _ _
   | exact ih1 _ _ _ _ _ _
   | exact spec_l20Rd_odd.mono _ _ _ _
   | exact spec_l20Rd_pick.mono _ _ _ _
   | exact LeO.none _
   | refine LeO.ite ?_ ?_
   | refine LeO.bind ?_ (fun _ => ?_)
theorem spec_l20Value.mono : ∀ a0 a1 a2 a3 k, LeO (spec_l20Value.f k a0 a1 a2 a3) (spec_l20Value.f (k + 1) a0 a1 a2 a3) := by
 intro a0 a1 a2 a3 k
 obtain ⟨ih0, ih1⟩ := spec_l20Value.mono_l k
 unfold spec_l20Value.f
 repeat' first
   | (with_reducible exact ih0 _ _ _ _ _ _ _)
   | (with_reducible exact ih1 _ _ _ _ _ _)
   | (with_reducible exact spec_l20Rd_odd.mono _ _ _ _)
   | (with_reducible exact spec_l20Rd_pick.mono _ _ _ _)
   | (with_reducible exact LeO.refl _)
   | (with_reducible exact LeO.none _)
   | (with_reducible refine LeO.ite ?_ ?_)
   | (with_reducible refine LeO.bind ?_ (fun _ => ?_))
   | exact ih0 _ _ _ _ _ _ _
   | exact ih1 _ _ _ _ _ _
   | exact spec_l20Rd_odd.mono _ _ _ _
   | exact spec_l20Rd_pick.mono _ _ _ _
   | exact LeO.none _
   | refine LeO.ite ?_ ?_
   | refine LeO.bind ?_ (fun _ => ?_)
set_option maxHeartbeats 8000000 in
set_option maxRecDepth 100000 in
theorem spec_l20Value.calls (k : Nat) (g : Nat) (s0_0 : List Int) (s0_1 : Int) (a1 : Int) (a2 : Int) (r1 : Int) (r2 : Int) (r3 : Int) (w0 w : World) (hI : IsS105 w0 w g s0_0 s0_1) (hB : Below w0.heap.size w0 w) (h : spec_l20Value.f k s0_0 s0_1 a1 a2 = some (r1, r2, r3)) :
  Calls Try.prog 84 #[.pointer (some ⟨g, 0, none⟩), .int .i64 a1, .int .i64 a2] w fun e w' => e = .returned (.agg #[.int .i64 r1, .int .i64 r2]) ∧ IsS105 w0 w' g s0_0 r3 ∧ Below w0.heap.size w0 w' ∧ KeepBut w w' g none := by
 have hu45 := Try.underlying45
 have HI0 := Aside0.mk hI
 have HK := Aside0.mk (KeepBut.refl w g none)
 have HL := Aside0.mk hB.size
 have HG0 := Aside0.mk (IsS105.ge hI)
 clear hI
 have HW0 := Aside0.mk hB.size
 have HB := Aside0.mk hB
 clear hB
 have H : ((spec_l20Rd_pick.f k s0_0 s0_1 2).bind fun bt552 => ((spec_l20Rd_pick.f k s0_0 bt552.2 10).bind fun bt554 => ((spec_l20Rd_pick.f k s0_0 bt554.2 (mx 1 a1)).bind fun bt556 => ((some (([(⟨1, bt552.1⟩ : S45), (⟨2, bt554.1⟩ : S45), (⟨3, bt556.1⟩ : S45)] : List (S45)) : List (S45))).bind fun y558 => ((spec_l20Rd_pick.f k s0_0 bt556.2 3).bind fun bt561 => (if 0 ≤ bt561.1 then (if bt561.1 < (y558.length : Int) then (if a1 = 0 then (spec_l20Value.j0 k a1 a2 (((rd_T45 y558 bt561.1).f0) == 3) s0_0 bt561.2 ((rd_T45 y558 bt561.1).f0) ((rd_T45 y558 bt561.1).f1)) else (spec_l20Value.j0 k a1 a2 false s0_0 bt561.2 ((rd_T45 y558 bt561.1).f0) ((rd_T45 y558 bt561.1).f1))) else (none)) else (none))))))) = some (r1, r2, r3) := h
 clear h
 replace H := Option.bind_eq_some_iff.mp H
 obtain ⟨⟨t552, t553⟩, A40, H⟩ := H
 replace H : ((spec_l20Rd_pick.f k s0_0 t553 10).bind fun bt554 => ((spec_l20Rd_pick.f k s0_0 bt554.2 (mx 1 a1)).bind fun bt556 => ((some (([(⟨1, t552⟩ : S45), (⟨2, bt554.1⟩ : S45), (⟨3, bt556.1⟩ : S45)] : List (S45)) : List (S45))).bind fun y558 => ((spec_l20Rd_pick.f k s0_0 bt556.2 3).bind fun bt561 => (if 0 ≤ bt561.1 then (if bt561.1 < (y558.length : Int) then (if a1 = 0 then (spec_l20Value.j0 k a1 a2 (((rd_T45 y558 bt561.1).f0) == 3) s0_0 bt561.2 ((rd_T45 y558 bt561.1).f0) ((rd_T45 y558 bt561.1).f1)) else (spec_l20Value.j0 k a1 a2 false s0_0 bt561.2 ((rd_T45 y558 bt561.1).f0) ((rd_T45 y558 bt561.1).f1))) else (none)) else (none)))))) = some (r1, r2, r3) := H
 have A4 := Aside0.mk A40
 clear A40
 replace H := Option.bind_eq_some_iff.mp H
 obtain ⟨⟨t554, t555⟩, A50, H⟩ := H
 replace H : ((spec_l20Rd_pick.f k s0_0 t555 (mx 1 a1)).bind fun bt556 => ((some (([(⟨1, t552⟩ : S45), (⟨2, t554⟩ : S45), (⟨3, bt556.1⟩ : S45)] : List (S45)) : List (S45))).bind fun y558 => ((spec_l20Rd_pick.f k s0_0 bt556.2 3).bind fun bt561 => (if 0 ≤ bt561.1 then (if bt561.1 < (y558.length : Int) then (if a1 = 0 then (spec_l20Value.j0 k a1 a2 (((rd_T45 y558 bt561.1).f0) == 3) s0_0 bt561.2 ((rd_T45 y558 bt561.1).f0) ((rd_T45 y558 bt561.1).f1)) else (spec_l20Value.j0 k a1 a2 false s0_0 bt561.2 ((rd_T45 y558 bt561.1).f0) ((rd_T45 y558 bt561.1).f1))) else (none)) else (none))))) = some (r1, r2, r3) := H
 have A5 := Aside0.mk A50
 clear A50
 obtain ⟨ji6, hji6⟩ : ∃ j_ : Int, (mx 1 a1) = j_ := ⟨_, rfl⟩
 replace H : ((spec_l20Rd_pick.f k s0_0 t555 (ji6)).bind fun bt556 => ((some (([(⟨1, t552⟩ : S45), (⟨2, t554⟩ : S45), (⟨3, bt556.1⟩ : S45)] : List (S45)) : List (S45))).bind fun y558 => ((spec_l20Rd_pick.f k s0_0 bt556.2 3).bind fun bt561 => (if 0 ≤ bt561.1 then (if bt561.1 < (y558.length : Int) then (if a1 = 0 then (spec_l20Value.j0 k a1 a2 (((rd_T45 y558 bt561.1).f0) == 3) s0_0 bt561.2 ((rd_T45 y558 bt561.1).f0) ((rd_T45 y558 bt561.1).f1)) else (spec_l20Value.j0 k a1 a2 false s0_0 bt561.2 ((rd_T45 y558 bt561.1).f0) ((rd_T45 y558 bt561.1).f1))) else (none)) else (none))))) = some (r1, r2, r3) := by first | (rw [hji6] at H; exact H) | (simp only [hji6] at H ⊢; exact H)
 (try rw [hji6] at A4)
 (try rw [hji6] at A5)
 (try (have hji6l : 1 ≤ ji6 := by (rw [← hji6]; unfold mx; (repeat' split) <;> omega)))
 (try (have hji6m : 0 ≤ ji6 := by omega))
 have hji6_ : (if 1 < a1 then a1 else 1) = ji6 := hji6
 replace H := Option.bind_eq_some_iff.mp H
 obtain ⟨⟨t556, t557⟩, A70, H⟩ := H
 replace H : ((some (([(⟨1, t552⟩ : S45), (⟨2, t554⟩ : S45), (⟨3, t556⟩ : S45)] : List (S45)) : List (S45))).bind fun y558 => ((spec_l20Rd_pick.f k s0_0 t557 3).bind fun bt561 => (if 0 ≤ bt561.1 then (if bt561.1 < (y558.length : Int) then (if a1 = 0 then (spec_l20Value.j0 k a1 a2 (((rd_T45 y558 bt561.1).f0) == 3) s0_0 bt561.2 ((rd_T45 y558 bt561.1).f0) ((rd_T45 y558 bt561.1).f1)) else (spec_l20Value.j0 k a1 a2 false s0_0 bt561.2 ((rd_T45 y558 bt561.1).f0) ((rd_T45 y558 bt561.1).f1))) else (none)) else (none)))) = some (r1, r2, r3) := H
 have A7 := Aside0.mk A70
 clear A70
 obtain ⟨y558, hy558⟩ : ∃ y_ : List (S45), y_ = (([(⟨1, t552⟩ : S45), (⟨2, t554⟩ : S45), (⟨3, t556⟩ : S45)] : List (S45))) := ⟨_, rfl⟩
 replace H : ((spec_l20Rd_pick.f k s0_0 t557 3).bind fun bt561 => (if 0 ≤ bt561.1 then (if bt561.1 < (y558.length : Int) then (if a1 = 0 then (spec_l20Value.j0 k a1 a2 (((rd_T45 y558 bt561.1).f0) == 3) s0_0 bt561.2 ((rd_T45 y558 bt561.1).f0) ((rd_T45 y558 bt561.1).f1)) else (spec_l20Value.j0 k a1 a2 false s0_0 bt561.2 ((rd_T45 y558 bt561.1).f0) ((rd_T45 y558 bt561.1).f1))) else (none)) else (none))) = some (r1, r2, r3) := by first | (rw [hy558]; with_reducible exact H) | (have H2_ := (Option.bind_some _ _).symm.trans H; rw [hy558]; with_reducible exact H2_) | (have H2_ := (Option.bind_some _ _).symm.trans H; with_reducible exact H2_) | with_reducible exact H | (rw [hy558]; exact H) | exact H
 have Ny558 := Aside0.mk hy558
 clear hy558
 replace H := Option.bind_eq_some_iff.mp H
 obtain ⟨⟨t561, t562⟩, A80, H⟩ := H
 replace H : (if 0 ≤ t561 then (if t561 < (y558.length : Int) then (if a1 = 0 then (spec_l20Value.j0 k a1 a2 (((rd_T45 y558 t561).f0) == 3) s0_0 t562 ((rd_T45 y558 t561).f0) ((rd_T45 y558 t561).f1)) else (spec_l20Value.j0 k a1 a2 false s0_0 t562 ((rd_T45 y558 t561).f0) ((rd_T45 y558 t561).f1))) else (none)) else (none)) = some (r1, r2, r3) := H
 have A8 := Aside0.mk A80
 clear A80
 by_cases c9 : 0 ≤ t561
 ·
  rw [if_pos c9] at H
  have c9b0 : decide (0 ≤ t561) = true := decide_eq_true c9
  clear c9
  by_cases c10 : t561 < (y558.length : Int)
  ·
   rw [if_pos c10] at H
   have c10b0 : decide (t561 < (y558.length : Int)) = true := decide_eq_true c10
   clear c10
   have HC11 := Aside0.mk H
   clear H
   go_enter Try.func84, Try.ntmps84
   go_upto_region 2 with (first | ((with_reducible refine gate_dst (N := 6) rfl ?_); refine box_event ?hg (N := 6) ?hd (cs := #[.int .i64 0, .int .i64 0]) (t := 45) ?hr ?_; (case hd => rfl); (case hg => rfl); (case hr => first | (go_simp; done) | (go_simp; rfl)); intro gb551 hg w12 hbox hb; have n0_ := Aside0.mk (IsS105.below (by exact sw105 HI0.out) hb); have n1_ := Aside0.mk (KeepBut.trans (by exact kw HK.out) (KeepBut.of_below hb g none) (.inl rfl)); have n2_ := Aside0.mk (below_step (by exact bw HB.out) hb); have n3_ := Aside0.mk (hbox); have n4_ := Aside0.mk ((by rw [hg]; exact (keep_size (w := w) (g := g) (row := none) (by exact kw HK.out)) : w.heap.size ≤ gb551)); have n5_ := Aside0.mk ((Nat.le_trans HW0.out (by rw [hg]; exact (keep_size (w := w) (g := g) (row := none) (by exact kw HK.out)) : w.heap.size ≤ gb551) : w0.heap.size ≤ gb551)); have n6_ := Aside0.mk ((by rw [hg]; exact Nat.ne_of_lt (IsS105.lt (show IsS105 w0 _ g s0_0 s0_1 from by exact sw105 HI0.out)) : g ≠ gb551)); have n7_ := Aside0.mk ((by rw [hg]; exact Nat.ne_of_gt (IsS105.lt (show IsS105 w0 _ g s0_0 s0_1 from by exact sw105 HI0.out)) : gb551 ≠ g)); clear HI0; clear HK; clear HB; have HI0 := n0_; have HK := n1_; have HB := n2_; have BK551 := n3_; have GW551 := n4_; have GE551 := n5_; have NB0_551 := n6_; have NB551_0 := n7_; clear n0_ n1_ n2_ n3_ n4_ n5_ n6_ n7_; clear hb hbox hg) | ((with_reducible refine gate_callee (f := 62) rfl ?_); refine gl (some 9) Try.func62 #[.pointer (some ⟨g, 0, none⟩), .int .i64 2] ?_; (with_reducible refine (spec_l20Rd_pick.calls k g s0_0 s0_1 2 t552 t553 w0 _ ?side1 ?side2 A4.out).mono ?_); (case side1 => exact sw105 HI0.out); (case side2 => exact bw HB.out); rintro e w13 ⟨rfl, hi, hb, hk⟩; refine ⟨_, rfl, ?_⟩; have n0_ := Aside0.mk (KeepBut.blk hk (g' := gb551) (o := .cells #[.int .i64 0, .int .i64 0] 45 (0, 0)) (by exact bk BK551.out) NB551_0.out (by simp)); have n1_ := Aside0.mk (KeepBut.trans (by exact kw HK.out) hk (.inl rfl)); have n2_ := Aside0.mk (hb); have n3_ := Aside0.mk (hi); clear BK551; clear HK; clear HB; clear HI0; have BK551 := n0_; have HK := n1_; have HB := n2_; have HI0 := n3_; clear n0_ n1_ n2_ n3_; (try clear hb); (try clear hb2); (try clear hk); (try clear hi)) | ((with_reducible refine gate_callee (f := 62) rfl ?_); refine gl (some 12) Try.func62 #[.pointer (some ⟨g, 0, none⟩), .int .i64 10] ?_; (with_reducible refine (spec_l20Rd_pick.calls k g s0_0 t553 10 t554 t555 w0 _ ?side1 ?side2 A5.out).mono ?_); (case side1 => exact sw105 HI0.out); (case side2 => exact bw HB.out); rintro e w14 ⟨rfl, hi, hb, hk⟩; refine ⟨_, rfl, ?_⟩; have n0_ := Aside0.mk (KeepBut.blk hk (g' := gb551) (o := .cells #[.int .i64 0, .int .i64 0] 45 (0, 0)) (by exact bk BK551.out) NB551_0.out (by simp)); have n1_ := Aside0.mk (KeepBut.trans (by exact kw HK.out) hk (.inl rfl)); have n2_ := Aside0.mk (hb); have n3_ := Aside0.mk (hi); clear BK551; clear HK; clear HB; clear HI0; have BK551 := n0_; have HK := n1_; have HB := n2_; have HI0 := n3_; clear n0_ n1_ n2_ n3_; (try clear hb); (try clear hb2); (try clear hk); (try clear hi)) | ((with_reducible refine gate_callee (f := 62) rfl ?_); refine goesL_ (some 17) rfl rfl Try.func62 (by kernel_rfl) rfl #[.pointer (some ⟨g, 0, none⟩), .int .i64 ji6] rfl (by (try simp only [List.map_toArray, List.map_cons, List.map_nil]); first | done | (simp only [hji6]; rfl) | rfl | (simp only [List.length_drop, List.length_take]; rfl)) ?_; (with_reducible refine (spec_l20Rd_pick.calls k g s0_0 t555 ji6 t556 t557 w0 _ ?side1 ?side2 A7.out).mono ?_); (case side1 => exact sw105 HI0.out); (case side2 => exact bw HB.out); rintro e w15 ⟨rfl, hi, hb, hk⟩; refine ⟨_, rfl, ?_⟩; have n0_ := Aside0.mk (KeepBut.blk hk (g' := gb551) (o := .cells #[.int .i64 0, .int .i64 0] 45 (0, 0)) (by exact bk BK551.out) NB551_0.out (by simp)); have n1_ := Aside0.mk (KeepBut.trans (by exact kw HK.out) hk (.inl rfl)); have n2_ := Aside0.mk (hb); have n3_ := Aside0.mk (hi); clear BK551; clear HK; clear HB; clear HI0; have BK551 := n0_; have HK := n1_; have HB := n2_; have HI0 := n3_; clear n0_ n1_ n2_ n3_; (try clear hb); (try clear hb2); (try clear hk); (try clear hi)) | ((with_reducible refine gate_dst (N := 19) rfl ?_); refine Kd.R_lit k45 _ 45 ?hg (N := 19) ?hd (xs := ([(⟨1, t552⟩ : S45), (⟨2, t554⟩ : S45), (⟨3, t556⟩ : S45)] : List (S45))) (inner := [.int .i64 1, .int .i64 t552, .int .i64 2, .int .i64 t554, .int .i64 3, .int .i64 t556]) (ok := fun _ => True) (okp := fun _ => True) ?hr ?hp (fun _ hk => hk) trivial (Below.refl _ _) (Nat.le_refl _) (by simp) ?_; (case hd => rfl); (case hg => rfl); (case hr => first | (go_simp; done) | (go_simp; rfl)); (case hp => exact (Reps.c2 (show Kd.M k45 _ _ _ (⟨1, t552⟩ : S45) [.int .i64 1, .int .i64 t552] from (k45_mkM _ _ _ (⟨1, t552⟩ : S45) )) (Reps.c2 (show Kd.M k45 _ _ _ (⟨2, t554⟩ : S45) [.int .i64 2, .int .i64 t554] from (k45_mkM _ _ _ (⟨2, t554⟩ : S45) )) (Reps.c2 (show Kd.M k45 _ _ _ (⟨3, t556⟩ : S45) [.int .i64 3, .int .i64 t556] from (k45_mkM _ _ _ (⟨3, t556⟩ : S45) )) (Reps.none _ _))))); intro v559 w16 ho17 hb hg_ hnew_; clear hg_ hnew_; (first | rw [← Ny558.out] at ho17 | (simp only [Int.reduceToNat] at ho17; rw [← Ny558.out] at ho17)); have n0_ := Aside0.mk (Kd.R_lower (Kd.R_newB ho17 (g := gb551) (o := .cells #[.int .i64 0, .int .i64 0] 45 (0, 0)) (by exact bk BK551.out)) (keep_size (w := w) (g := g) (row := none) (by exact kw HK.out))); have n1_ := Aside0.mk (IsS105.below (by exact sw105 HI0.out) hb); have n2_ := Aside0.mk (blk_below (g := gb551) (o := .cells #[.int .i64 0, .int .i64 0] 45 (0, 0)) (by exact bk BK551.out) hb); have n3_ := Aside0.mk (KeepBut.trans (by exact kw HK.out) (KeepBut.of_below hb g none) (.inl rfl)); have n4_ := Aside0.mk (below_step (by exact bw HB.out) hb); clear HI0; clear BK551; clear HK; clear HB; have HO560 := n0_; have HI0 := n1_; have BK551 := n2_; have HK := n3_; have HB := n4_; clear n0_ n1_ n2_ n3_ n4_; clear hb ho17) | ((with_reducible refine gate_callee (f := 62) rfl ?_); refine gl (some 21) Try.func62 #[.pointer (some ⟨g, 0, none⟩), .int .i64 3] ?_; (with_reducible refine (spec_l20Rd_pick.calls k g s0_0 t557 3 t561 t562 w0 _ ?side1 ?side2 A8.out).mono ?_); (case side1 => exact sw105 HI0.out); (case side2 => exact bw HB.out); rintro e w18 ⟨rfl, hi, hb, hk⟩; refine ⟨_, rfl, ?_⟩; have n0_ := Aside0.mk (KeepBut.blk hk (g' := gb551) (o := .cells #[.int .i64 0, .int .i64 0] 45 (0, 0)) (by exact bk BK551.out) NB551_0.out (by simp)); have n1_ := Aside0.mk (Kd.R_mono (Kd.R_keep (IsS105.apart (show IsS105 w0 _ g s0_0 t557 from by exact sw105 HI0.out) (by exact Kd.xR HO560.out) (by decide)) hk (fun _ h => h.2)) (fun _ h => h.1)); have n2_ := Aside0.mk (KeepBut.trans (by exact kw HK.out) hk (.inl rfl)); have n3_ := Aside0.mk (hb); have n4_ := Aside0.mk (hi); clear BK551; clear HO560; clear HK; clear HB; clear HI0; have BK551 := n0_; have HO560 := n1_; have HK := n2_; have HB := n3_; have HI0 := n4_; clear n0_ n1_ n2_ n3_ n4_; (try clear hb); (try clear hb2); (try clear hk); (try clear hi); obtain ⟨Ao19, co19, eo19⟩ := Kd.R_slice HO560.out; subst eo19; have p563 : 0 ≤ (t561 : Int) := of_decide_eq_true (by first | (with_reducible assumption) | assumption); have q563 : t561 < (y558.length : Int) := of_decide_eq_true (by first | (with_reducible assumption) | assumption); obtain ⟨ad563, e563, hx563_0, hx563_1⟩ := at_T45 (Kd.R_reads' HO560.out).2.2 t561 p563 q563; cases e563; replace p563 := eq_true p563; replace q563 := eq_true q563) | ((with_reducible refine gate_dst (N := 7) rfl ?_); refine box_event ?hg (N := 7) ?hd (cs := #[.int .i64 0, .int .i64 0]) (t := 45) ?hr ?_; (case hd => rfl); (case hg => rfl); (case hr => first | (go_simp; done) | (go_simp; rfl)); intro gb564 hg w20 hbox hb; have n0_ := Aside0.mk (Kd.R_below (Kd.R_elderB (by exact Kd.xR HO560.out) gb564 (Nat.le_of_eq hg.symm)) hb); have n1_ := Aside0.mk (IsS105.below (by exact sw105 HI0.out) hb); have n2_ := Aside0.mk (blk_below (g := gb551) (o := .cells #[.int .i64 0, .int .i64 0] 45 (0, 0)) (by exact bk BK551.out) hb); have n3_ := Aside0.mk (KeepBut.trans (by exact kw HK.out) (KeepBut.of_below hb g none) (.inl rfl)); have n4_ := Aside0.mk (below_step (by exact bw HB.out) hb); have n5_ := Aside0.mk (hbox); have n6_ := Aside0.mk ((by rw [hg]; exact (keep_size (w := w) (g := g) (row := none) (by exact kw HK.out)) : w.heap.size ≤ gb564)); have n7_ := Aside0.mk ((Nat.le_trans HW0.out (by rw [hg]; exact (keep_size (w := w) (g := g) (row := none) (by exact kw HK.out)) : w.heap.size ≤ gb564) : w0.heap.size ≤ gb564)); have n8_ := Aside0.mk ((by rw [hg]; exact Nat.ne_of_lt (blk_lt (g := gb551) (o := .cells #[.int .i64 0, .int .i64 0] 45 (0, 0)) (by exact bk BK551.out)) : gb551 ≠ gb564)); have n9_ := Aside0.mk ((by rw [hg]; exact Nat.ne_of_gt (blk_lt (g := gb551) (o := .cells #[.int .i64 0, .int .i64 0] 45 (0, 0)) (by exact bk BK551.out)) : gb564 ≠ gb551)); have n10_ := Aside0.mk ((by rw [hg]; exact Nat.ne_of_lt (IsS105.lt (show IsS105 w0 _ g s0_0 t562 from by exact sw105 HI0.out)) : g ≠ gb564)); have n11_ := Aside0.mk ((by rw [hg]; exact Nat.ne_of_gt (IsS105.lt (show IsS105 w0 _ g s0_0 t562 from by exact sw105 HI0.out)) : gb564 ≠ g)); clear HO560; clear HI0; clear BK551; clear HK; clear HB; have HO560 := n0_; have HI0 := n1_; have BK551 := n2_; have HK := n3_; have HB := n4_; have BK564 := n5_; have GW564 := n6_; have GE564 := n7_; have NB551_564 := n8_; have NB564_551 := n9_; have NB0_564 := n10_; have NB564_0 := n11_; clear n0_ n1_ n2_ n3_ n4_ n5_ n6_ n7_ n8_ n9_ n10_ n11_; clear hb hbox hg; have hnb21 := NB564_551.out; have hnc21 := NB551_564.out; have hnb22 := NB564_0.out; have hnc22 := NB0_564.out; have hcz23_0 : w20.cell? ⟨gb564, 0, none⟩ = some (.int .i64 0) := (blk_cell BK564.out 0).trans rfl; have hcz23_1 : w20.cell? ⟨gb564, 1, none⟩ = some (.int .i64 0) := (blk_cell BK564.out 1).trans rfl; have hfz23_0 := blk_frozen BK564.out 0; have hfz23_1 := blk_frozen BK564.out 1))
   (try simp only [Act.put, List.setIfInBounds_toArray, List.set_cons_zero, List.set_cons_succ])
   go_cut [30] (fun v30 wc => ∃ (kq : Nat) (x30_10 : Bool), v30 = .bool x30_10 ∧ Aside0 (spec_l20Value.j0 kq a1 a2 x30_10 s0_0 t562 ((rd_T45 y558 t561).f0) ((rd_T45 y558 t561).f1) = some (r1, r2, r3)) ∧ Aside0 (kq ≤ k) ∧ Aside0 (wc.heap[gb551]? = some (.cells #[.int .i64 0, .int .i64 0] 45 (0, 0))) ∧ Aside0 (wc.heap[gb564]? = some (.cells #[.int .i64 ((rd_T45 y558 t561).f0), .int .i64 ((rd_T45 y558 t561).f1)] 45 (0, 0))) ∧ Aside0 (IsS105 w0 wc g s0_0 t562) ∧ Aside0 (KeepBut w wc g none) ∧ Aside0 (Below w0.heap.size w0 wc))
   case first =>
    have H := HC11.out
    clear HC11
    by_cases c24 : a1 = 0
    ·
     rw [if_pos c24] at H
     have c24b0 : (a1 == 0) = true := beq_iff_eq.mpr c24
     have c24b1 : (a1 != 0) = false := bne_eq_false_iff_eq.mpr c24
     clear c24
     (first | rw [c24b0] | (simp only [i64_w, i32_w]; rw [c24b0]) | rw [c24b2] | rw [c24b1] | skip)
     have H' := Aside0.mk H
     clear H
     have hnb25 := NB564_551.out
     have hnc25 := NB551_564.out
     have hnb26 := NB564_0.out
     have hnc26 := NB0_564.out
     have hcz27_0 : w20.cell? ⟨gb564, 0, none⟩ = some (.int .i64 0) := (blk_cell BK564.out 0).trans rfl
     have hcz27_1 : w20.cell? ⟨gb564, 1, none⟩ = some (.int .i64 0) := (blk_cell BK564.out 1).trans rfl
     have hfz27_0 := blk_frozen BK564.out 0
     have hfz27_1 := blk_frozen BK564.out 1
     go_wp2
     go_meet
     case rel => exact ⟨_, ((((rd_T45 y558 t561).f0) == 3)), (by first | rfl | (simp; done) | (simp [*]; done)), H', ⟨by first | omega | exact Nat.le_refl _⟩, ⟨by (with_reducible repeat (first | refine blk_drewN ?_ _ | refine blk_drew ?_ | refine blk_alloc ?_ _)); refine blk_far ?_ NB551_564.out _; (with_reducible repeat (first | refine blk_drewN ?_ _ | refine blk_drew ?_ | refine blk_alloc ?_ _)); refine blk_far ?_ NB551_564.out _; exact bk BK551.out⟩, ⟨by (with_reducible repeat (first | refine blk_drewN ?_ _ | refine blk_drew ?_ | refine blk_alloc ?_ _)); refine blk_put (cs := #[.int .i64 ((rd_T45 y558 t561).f0), .int .i64 0]) ?_ 1 _ rfl; (with_reducible repeat (first | refine blk_drewN ?_ _ | refine blk_drew ?_ | refine blk_alloc ?_ _)); refine blk_put (cs := #[.int .i64 0, .int .i64 0]) ?_ 0 _ rfl; exact bk BK564.out⟩, ⟨by exact sw105 HI0.out⟩, ⟨by exact kw HK.out⟩, ⟨by exact bw HB.out⟩⟩
    ·
     rw [if_neg c24] at H
     have c24b0 : (a1 == 0) = false := beq_eq_false_iff_ne.mpr c24
     have c24b1 : (a1 != 0) = true := bne_iff_ne.mpr c24
     (first | rw [c24b0] | (simp only [i64_w, i32_w]; rw [c24b0]) | rw [c24b2] | rw [c24b1] | skip)
     have H' := Aside0.mk H
     clear H
     go_wp2
     go_meet
     case rel => exact ⟨_, (false), (by first | rfl | (simp; done) | (simp [*]; done)), H', ⟨by first | omega | exact Nat.le_refl _⟩, ⟨by (with_reducible repeat (first | refine blk_drewN ?_ _ | refine blk_drew ?_ | refine blk_alloc ?_ _)); refine blk_far ?_ NB551_564.out _; (with_reducible repeat (first | refine blk_drewN ?_ _ | refine blk_drew ?_ | refine blk_alloc ?_ _)); refine blk_far ?_ NB551_564.out _; exact bk BK551.out⟩, ⟨by (with_reducible repeat (first | refine blk_drewN ?_ _ | refine blk_drew ?_ | refine blk_alloc ?_ _)); refine blk_put (cs := #[.int .i64 ((rd_T45 y558 t561).f0), .int .i64 0]) ?_ 1 _ rfl; (with_reducible repeat (first | refine blk_drewN ?_ _ | refine blk_drew ?_ | refine blk_alloc ?_ _)); refine blk_put (cs := #[.int .i64 0, .int .i64 0]) ?_ 0 _ rfl; exact bk BK564.out⟩, ⟨by exact sw105 HI0.out⟩, ⟨by exact kw HK.out⟩, ⟨by exact bw HB.out⟩⟩
   case rest =>
    clear HC11
    try clear c1
    try clear c2
    try clear p2
    try clear p5
    try clear q5
    try clear hx5
    try clear c6
    try clear c8
    try clear c9
    try clear c9b0
    try clear c10
    try clear c10b0
    try clear c21
    try clear c22
    try clear c24
    try clear c24b0
    try clear c24b1
    try clear c24b2
    try clear c25
    try clear c26
    try clear hcz23_0
    try clear hcz23_1
    try clear hcz27_0
    try clear hcz27_1
    try clear hfz23_0
    try clear hfz23_1
    try clear hfz27_0
    try clear hfz27_1
    try clear hx563_0
    try clear hx563_1
    try clear p563
    try clear q563
    obtain ⟨kq, x30_10, rfl, HA, HJ10, BK551, BK564, HI0, HK, HB⟩ := hcut
    cases kq with
    | zero => exact absurd HA.out (by simp [spec_l20Value.j0])
    | succ kj10 =>
     have H := HA.out
     clear HA
     simp only [spec_l20Value.j0] at H
     have HC28 := Aside0.mk H
     clear H
     go_upto_if 30 with (fail)
     go_cut [] (fun wc => ∃ (kq : Nat) (x565000_27 : Int) (x565001_27 : Int), Aside0 (spec_l20Value.j1 kq a1 a2 s0_0 t562 x565000_27 x565001_27 = some (r1, r2, r3)) ∧ Aside0 (kq ≤ kj10) ∧ Aside0 (wc.heap[gb551]? = some (.cells #[.int .i64 0, .int .i64 0] 45 (0, 0))) ∧ Aside0 (wc.heap[gb564]? = some (.cells #[.int .i64 x565000_27, .int .i64 x565001_27] 45 (0, 0))) ∧ Aside0 (IsS105 w0 wc g s0_0 t562) ∧ Aside0 (KeepBut w wc g none) ∧ Aside0 (Below w0.heap.size w0 wc))
     case first =>
      have H := HC28.out
      clear HC28
      by_cases c29 : x30_10 = true
      ·
       subst c29
       have H1 : (spec_l20Value.j1 kj10 a1 a2 s0_0 t562 2 99) = some (r1, r2, r3) := by rw [if_pos rfl] at H; exact H
       clear H
       have H := H1
       clear H1
       have H' := Aside0.mk H
       clear H
       have hnb30 := NB564_551.out
       have hnc30 := NB551_564.out
       have hnb31 := NB564_0.out
       have hnc31 := NB0_564.out
       have hcz32_0 : wc.cell? ⟨gb564, 0, none⟩ = some (.int .i64 ((rd_T45 y558 t561).f0)) := (blk_cell BK564.out 0).trans rfl
       have hcz32_1 : wc.cell? ⟨gb564, 1, none⟩ = some (.int .i64 ((rd_T45 y558 t561).f1)) := (blk_cell BK564.out 1).trans rfl
       have hfz32_0 := blk_frozen BK564.out 0
       have hfz32_1 := blk_frozen BK564.out 1
       go_wp2
       go_meet
       case rel => exact ⟨_, (2), (99), H', ⟨by have := HJ10.out; first | omega | exact Nat.le_refl _⟩, ⟨by (with_reducible repeat (first | refine blk_drewN ?_ _ | refine blk_drew ?_ | refine blk_alloc ?_ _)); refine blk_far ?_ NB551_564.out _; (with_reducible repeat (first | refine blk_drewN ?_ _ | refine blk_drew ?_ | refine blk_alloc ?_ _)); refine blk_far ?_ NB551_564.out _; exact bk BK551.out⟩, ⟨by (with_reducible repeat (first | refine blk_drewN ?_ _ | refine blk_drew ?_ | refine blk_alloc ?_ _)); refine blk_put (cs := #[.int .i64 2, .int .i64 ((rd_T45 y558 t561).f1)]) ?_ 1 _ rfl; (with_reducible repeat (first | refine blk_drewN ?_ _ | refine blk_drew ?_ | refine blk_alloc ?_ _)); refine blk_put (cs := #[.int .i64 ((rd_T45 y558 t561).f0), .int .i64 ((rd_T45 y558 t561).f1)]) ?_ 0 _ rfl; exact bk BK564.out⟩, ⟨by exact sw105 HI0.out⟩, ⟨by exact kw HK.out⟩, ⟨by exact bw HB.out⟩⟩
      ·
       replace c29 := Bool.eq_false_iff.mpr c29
       subst c29
       have H1 : (spec_l20Value.j1 kj10 a1 a2 s0_0 t562 ((rd_T45 y558 t561).f0) ((rd_T45 y558 t561).f1)) = some (r1, r2, r3) := by rw [if_neg (show ¬ (false = true) by decide)] at H; exact H
       clear H
       have H := H1
       clear H1
       have H' := Aside0.mk H
       clear H
       go_wp2
       go_meet
       case rel => exact ⟨_, (((rd_T45 y558 t561).f0)), (((rd_T45 y558 t561).f1)), H', ⟨by have := HJ10.out; first | omega | exact Nat.le_refl _⟩, ⟨by exact bk BK551.out⟩, ⟨by exact bk BK564.out⟩, ⟨by exact sw105 HI0.out⟩, ⟨by exact kw HK.out⟩, ⟨by exact bw HB.out⟩⟩
     case rest =>
      clear HC28
      try clear c1
      try clear c2
      try clear p2
      try clear c3
      try clear p5
      try clear q5
      try clear hx5
      try clear c6
      try clear c8
      try clear c9
      try clear c9b0
      try clear c10
      try clear c10b0
      try clear c21
      try clear c22
      try clear c24
      try clear c24b0
      try clear c24b1
      try clear c24b2
      try clear c25
      try clear c26
      try clear c29
      try clear c30
      try clear c31
      try clear hcz23_0
      try clear hcz23_1
      try clear hcz27_0
      try clear hcz27_1
      try clear hcz32_0
      try clear hcz32_1
      try clear hfz23_0
      try clear hfz23_1
      try clear hfz27_0
      try clear hfz27_1
      try clear hfz32_0
      try clear hfz32_1
      try clear hx563_0
      try clear hx563_1
      try clear p2
      try clear p5
      try clear p563
      try clear q5
      try clear q563
      obtain ⟨kq, x565000_27, x565001_27, HA, HJ27, BK551, BK564, HI0, HK, HB⟩ := hcut
      cases kq with
      | zero => exact absurd HA.out (by simp [spec_l20Value.j1])
      | succ kj27 =>
       have H := HA.out
       clear HA
       simp only [spec_l20Value.j1] at H
       replace H := Option.bind_eq_some_iff.mp H
       obtain ⟨⟨t565, t566⟩, A330, H⟩ := H
       replace H : (if t565 = true then ((some (([(⟨0, 0⟩ : S45), (⟨1, 2⟩ : S45), (⟨2, 100⟩ : S45), (⟨3, a1⟩ : S45), (⟨4, 0⟩ : S45), (⟨2, (-1)⟩ : S45)] : List (S45)) : List (S45))).bind fun y567 => ((spec_l20Rd_pick.f kj27 s0_0 t566 6).bind fun bt570 => (if 0 ≤ bt570.1 then (if bt570.1 < (y567.length : Int) then (some ((rd_T45 y567 bt570.1).f0, (rd_T45 y567 bt570.1).f1, bt570.2)) else (none)) else (none)))) else (some (x565000_27, x565001_27, t566))) = some (r1, r2, r3) := H
       have A33 := Aside0.mk A330
       clear A330
       by_cases c34 : t565 = true
       ·
        subst c34
        have H1 : ((some (([(⟨0, 0⟩ : S45), (⟨1, 2⟩ : S45), (⟨2, 100⟩ : S45), (⟨3, a1⟩ : S45), (⟨4, 0⟩ : S45), (⟨2, (-1)⟩ : S45)] : List (S45)) : List (S45))).bind fun y567 => ((spec_l20Rd_pick.f kj27 s0_0 t566 6).bind fun bt570 => (if 0 ≤ bt570.1 then (if bt570.1 < (y567.length : Int) then (some ((rd_T45 y567 bt570.1).f0, (rd_T45 y567 bt570.1).f1, bt570.2)) else (none)) else (none)))) = some (r1, r2, r3) := by rw [if_pos rfl] at H; exact H
        clear H
        have H := H1
        clear H1
        obtain ⟨y567, hy567⟩ : ∃ y_ : List (S45), y_ = (([(⟨0, 0⟩ : S45), (⟨1, 2⟩ : S45), (⟨2, 100⟩ : S45), (⟨3, a1⟩ : S45), (⟨4, 0⟩ : S45), (⟨2, (-1)⟩ : S45)] : List (S45))) := ⟨_, rfl⟩
        replace H : ((spec_l20Rd_pick.f kj27 s0_0 t566 6).bind fun bt570 => (if 0 ≤ bt570.1 then (if bt570.1 < (y567.length : Int) then (some ((rd_T45 y567 bt570.1).f0, (rd_T45 y567 bt570.1).f1, bt570.2)) else (none)) else (none))) = some (r1, r2, r3) := by first | (rw [hy567]; with_reducible exact H) | (have H2_ := (Option.bind_some _ _).symm.trans H; rw [hy567]; with_reducible exact H2_) | (have H2_ := (Option.bind_some _ _).symm.trans H; with_reducible exact H2_) | with_reducible exact H | (rw [hy567]; exact H) | exact H
        have Ny567 := Aside0.mk hy567
        clear hy567
        replace H := Option.bind_eq_some_iff.mp H
        obtain ⟨⟨t570, t571⟩, A350, H⟩ := H
        replace H : (if 0 ≤ t570 then (if t570 < (y567.length : Int) then (some ((rd_T45 y567 t570).f0, (rd_T45 y567 t570).f1, t571)) else (none)) else (none)) = some (r1, r2, r3) := H
        have A35 := Aside0.mk A350
        clear A350
        by_cases c36 : 0 ≤ t570
        ·
         rw [if_pos c36] at H
         have c36b0 : decide (0 ≤ t570) = true := decide_eq_true c36
         clear c36
         by_cases c37 : t570 < (y567.length : Int)
         ·
          rw [if_pos c37] at H
          have c37b0 : decide (t570 < (y567.length : Int)) = true := decide_eq_true c37
          clear c37
          simp only [Option.some.injEq, Prod.mk.injEq] at H
          obtain ⟨rfl, rfl, rfl⟩ := H
          go_wp2_with (first | ((with_reducible refine gate_callee (f := 72) rfl ?_); refine gl (some 34) Try.func72 #[.pointer (some ⟨g, 0, none⟩), .int .i64 a2] ?_; (with_reducible refine (spec_l20Rd_odd.calls kj27 g s0_0 t562 a2 true t566 w0 _ ?side1 ?side2 A33.out).mono ?_); (case side1 => exact sw105 HI0.out); (case side2 => exact bw HB.out); rintro e w38 ⟨rfl, hi, hb, hk⟩; refine ⟨_, rfl, ?_⟩; have n0_ := Aside0.mk (KeepBut.blk hk (g' := gb551) (o := .cells #[.int .i64 0, .int .i64 0] 45 (0, 0)) (by exact bk BK551.out) NB551_0.out (by simp)); have n1_ := Aside0.mk (KeepBut.blk hk (g' := gb564) (o := .cells #[.int .i64 x565000_27, .int .i64 x565001_27] 45 (0, 0)) (by exact bk BK564.out) NB564_0.out (by simp)); have n2_ := Aside0.mk (KeepBut.trans (by exact kw HK.out) hk (.inl rfl)); have n3_ := Aside0.mk (hb); have n4_ := Aside0.mk (hi); clear BK551; clear BK564; clear HK; clear HB; clear HI0; have BK551 := n0_; have BK564 := n1_; have HK := n2_; have HB := n3_; have HI0 := n4_; clear n0_ n1_ n2_ n3_ n4_; (try clear hb); (try clear hb2); (try clear hk); (try clear hi)) | ((with_reducible refine gate_dst (N := 42) rfl ?_); refine Kd.R_lit k45 _ 45 ?hg (N := 42) ?hd (xs := ([(⟨0, 0⟩ : S45), (⟨1, 2⟩ : S45), (⟨2, 100⟩ : S45), (⟨3, a1⟩ : S45), (⟨4, 0⟩ : S45), (⟨2, (-1)⟩ : S45)] : List (S45))) (inner := [.int .i64 0, .int .i64 0, .int .i64 1, .int .i64 2, .int .i64 2, .int .i64 100, .int .i64 3, .int .i64 a1, .int .i64 4, .int .i64 0, .int .i64 2, .int .i64 (-1)]) (ok := fun _ => True) (okp := fun _ => True) ?hr ?hp (fun _ hk => hk) trivial (Below.refl _ _) (Nat.le_refl _) (by simp) ?_; (case hd => rfl); (case hg => rfl); (case hr => first | (go_simp; done) | (go_simp; rfl)); (case hp => exact (Reps.c2 (show Kd.M k45 _ _ _ (⟨0, 0⟩ : S45) [.int .i64 0, .int .i64 0] from (k45_mkM _ _ _ (⟨0, 0⟩ : S45) )) (Reps.c2 (show Kd.M k45 _ _ _ (⟨1, 2⟩ : S45) [.int .i64 1, .int .i64 2] from (k45_mkM _ _ _ (⟨1, 2⟩ : S45) )) (Reps.c2 (show Kd.M k45 _ _ _ (⟨2, 100⟩ : S45) [.int .i64 2, .int .i64 100] from (k45_mkM _ _ _ (⟨2, 100⟩ : S45) )) (Reps.c2 (show Kd.M k45 _ _ _ (⟨3, a1⟩ : S45) [.int .i64 3, .int .i64 a1] from (k45_mkM _ _ _ (⟨3, a1⟩ : S45) )) (Reps.c2 (show Kd.M k45 _ _ _ (⟨4, 0⟩ : S45) [.int .i64 4, .int .i64 0] from (k45_mkM _ _ _ (⟨4, 0⟩ : S45) )) (Reps.c2 (show Kd.M k45 _ _ _ (⟨2, (-1)⟩ : S45) [.int .i64 2, .int .i64 (-1)] from (k45_mkM _ _ _ (⟨2, (-1)⟩ : S45) )) (Reps.none _ _)))))))); intro v568 w39 ho40 hb hg_ hnew_; clear hg_ hnew_; (first | rw [← Ny567.out] at ho40 | (simp only [Int.reduceToNat] at ho40; rw [← Ny567.out] at ho40)); have n0_ := Aside0.mk (Kd.R_lower (Kd.R_newB (Kd.R_newB ho40 (g := gb551) (o := .cells #[.int .i64 0, .int .i64 0] 45 (0, 0)) (by exact bk BK551.out)) (g := gb564) (o := .cells #[.int .i64 x565000_27, .int .i64 x565001_27] 45 (0, 0)) (by exact bk BK564.out)) (keep_size (w := w) (g := g) (row := none) (by exact kw HK.out))); have n1_ := Aside0.mk (blk_below (g := gb551) (o := .cells #[.int .i64 0, .int .i64 0] 45 (0, 0)) (by exact bk BK551.out) hb); have n2_ := Aside0.mk (blk_below (g := gb564) (o := .cells #[.int .i64 x565000_27, .int .i64 x565001_27] 45 (0, 0)) (by exact bk BK564.out) hb); have n3_ := Aside0.mk (IsS105.below (by exact sw105 HI0.out) hb); have n4_ := Aside0.mk (KeepBut.trans (by exact kw HK.out) (KeepBut.of_below hb g none) (.inl rfl)); have n5_ := Aside0.mk (below_step (by exact bw HB.out) hb); clear BK551; clear BK564; clear HI0; clear HK; clear HB; have HO569 := n0_; have BK551 := n1_; have BK564 := n2_; have HI0 := n3_; have HK := n4_; have HB := n5_; clear n0_ n1_ n2_ n3_ n4_ n5_; clear hb ho40) | ((with_reducible refine gate_callee (f := 62) rfl ?_); refine gl (some 44) Try.func62 #[.pointer (some ⟨g, 0, none⟩), .int .i64 6] ?_; (with_reducible refine (spec_l20Rd_pick.calls kj27 g s0_0 t566 6 t570 t571 w0 _ ?side1 ?side2 A35.out).mono ?_); (case side1 => exact sw105 HI0.out); (case side2 => exact bw HB.out); rintro e w41 ⟨rfl, hi, hb, hk⟩; refine ⟨_, rfl, ?_⟩; have n0_ := Aside0.mk (KeepBut.blk hk (g' := gb551) (o := .cells #[.int .i64 0, .int .i64 0] 45 (0, 0)) (by exact bk BK551.out) NB551_0.out (by simp)); have n1_ := Aside0.mk (KeepBut.blk hk (g' := gb564) (o := .cells #[.int .i64 x565000_27, .int .i64 x565001_27] 45 (0, 0)) (by exact bk BK564.out) NB564_0.out (by simp)); have n2_ := Aside0.mk (Kd.R_mono (Kd.R_keep (IsS105.apart (show IsS105 w0 _ g s0_0 t566 from by exact sw105 HI0.out) (by exact Kd.xR HO569.out) (by decide)) hk (fun _ h => h.2)) (fun _ h => h.1)); have n3_ := Aside0.mk (KeepBut.trans (by exact kw HK.out) hk (.inl rfl)); have n4_ := Aside0.mk (hb); have n5_ := Aside0.mk (hi); clear BK551; clear BK564; clear HO569; clear HK; clear HB; clear HI0; have BK551 := n0_; have BK564 := n1_; have HO569 := n2_; have HK := n3_; have HB := n4_; have HI0 := n5_; clear n0_ n1_ n2_ n3_ n4_ n5_; (try clear hb); (try clear hb2); (try clear hk); (try clear hi); obtain ⟨Ao42, co42, eo42⟩ := Kd.R_slice HO569.out; subst eo42; have p572 : 0 ≤ (t570 : Int) := of_decide_eq_true (by first | (with_reducible assumption) | assumption); have q572 : t570 < (y567.length : Int) := of_decide_eq_true (by first | (with_reducible assumption) | assumption); obtain ⟨ad572, e572, hx572_0, hx572_1⟩ := at_T45 (Kd.R_reads' HO569.out).2.2 t570 p572 q572; cases e572; replace p572 := eq_true p572; replace q572 := eq_true q572; have hnb43 := NB551_564.out; have hnc43 := NB564_551.out; have hnb44 := NB551_0.out; have hnc44 := NB0_551.out; have hcz45_0 : w41.cell? ⟨gb551, 0, none⟩ = some (.int .i64 0) := (blk_cell BK551.out 0).trans rfl; have hcz45_1 : w41.cell? ⟨gb551, 1, none⟩ = some (.int .i64 0) := (blk_cell BK551.out 1).trans rfl; have hfz45_0 := blk_frozen BK551.out 0; have hfz45_1 := blk_frozen BK551.out 1))
          refine bodyPost_ret (results_cell_row rfl _ _ gb551 45 #[.int .i64 ((rd_T45 y567 t570).f0), .int .i64 ((rd_T45 y567 t570).f1)] (0, 0) _ rfl (by (with_reducible repeat (first | refine blk_drewN ?_ _ | refine blk_drew ?_ | refine blk_alloc ?_ _)); refine blk_put (cs := #[.int .i64 ((rd_T45 y567 t570).f0), .int .i64 0]) ?_ 1 _ rfl; (with_reducible repeat (first | refine blk_drewN ?_ _ | refine blk_drew ?_ | refine blk_alloc ?_ _)); refine blk_put (cs := #[.int .i64 0, .int .i64 0]) ?_ 0 _ rfl; exact bk BK551.out) Try.underlying45 rfl (by kernel_rfl)) rfl ?_
          exact ⟨by first | rfl | (simp [errW_none, errW_some] <;> rfl) | (simp only [← hji6]; first | rfl | (simp [errW_none, errW_some] <;> rfl)) | (simp [*, errW_none, errW_some] <;> rfl), by exact sw105 HI0.out, by exact bw HB.out, by exact kw HK.out⟩
         ·
          rw [if_neg c37] at H
          exact absurd H (by simp)
        ·
         rw [if_neg c36] at H
         exact absurd H (by simp)
       ·
        replace c34 := Bool.eq_false_iff.mpr c34
        subst c34
        have H1 : (some (x565000_27, x565001_27, t566)) = some (r1, r2, r3) := by rw [if_neg (show ¬ (false = true) by decide)] at H; exact H
        clear H
        have H := H1
        clear H1
        simp only [Option.some.injEq, Prod.mk.injEq] at H
        obtain ⟨rfl, rfl, rfl⟩ := H
        go_wp2_with (first | ((with_reducible refine gate_callee (f := 72) rfl ?_); refine gl (some 34) Try.func72 #[.pointer (some ⟨g, 0, none⟩), .int .i64 a2] ?_; (with_reducible refine (spec_l20Rd_odd.calls kj27 g s0_0 t562 a2 false t566 w0 _ ?side1 ?side2 A33.out).mono ?_); (case side1 => exact sw105 HI0.out); (case side2 => exact bw HB.out); rintro e w46 ⟨rfl, hi, hb, hk⟩; refine ⟨_, rfl, ?_⟩; have n0_ := Aside0.mk (KeepBut.blk hk (g' := gb551) (o := .cells #[.int .i64 0, .int .i64 0] 45 (0, 0)) (by exact bk BK551.out) NB551_0.out (by simp)); have n1_ := Aside0.mk (KeepBut.blk hk (g' := gb564) (o := .cells #[.int .i64 x565000_27, .int .i64 x565001_27] 45 (0, 0)) (by exact bk BK564.out) NB564_0.out (by simp)); have n2_ := Aside0.mk (KeepBut.trans (by exact kw HK.out) hk (.inl rfl)); have n3_ := Aside0.mk (hb); have n4_ := Aside0.mk (hi); clear BK551; clear BK564; clear HK; clear HB; clear HI0; have BK551 := n0_; have BK564 := n1_; have HK := n2_; have HB := n3_; have HI0 := n4_; clear n0_ n1_ n2_ n3_ n4_; (try clear hb); (try clear hb2); (try clear hk); (try clear hi); have hnb47 := NB564_551.out; have hnc47 := NB551_564.out; have hnb48 := NB564_0.out; have hnc48 := NB0_564.out; have hcz49_0 : w46.cell? ⟨gb564, 0, none⟩ = some (.int .i64 x565000_27) := (blk_cell BK564.out 0).trans rfl; have hcz49_1 : w46.cell? ⟨gb564, 1, none⟩ = some (.int .i64 x565001_27) := (blk_cell BK564.out 1).trans rfl; have hfz49_0 := blk_frozen BK564.out 0; have hfz49_1 := blk_frozen BK564.out 1; have hnb50 := NB551_0.out; have hnc50 := NB0_551.out; have hcz51_0 : w46.cell? ⟨gb551, 0, none⟩ = some (.int .i64 0) := (blk_cell BK551.out 0).trans rfl; have hcz51_1 : w46.cell? ⟨gb551, 1, none⟩ = some (.int .i64 0) := (blk_cell BK551.out 1).trans rfl; have hfz51_0 := blk_frozen BK551.out 0; have hfz51_1 := blk_frozen BK551.out 1))
        refine bodyPost_ret (results_cell_row rfl _ _ gb551 45 #[.int .i64 x565000_27, .int .i64 x565001_27] (0, 0) _ rfl (by (with_reducible repeat (first | refine blk_drewN ?_ _ | refine blk_drew ?_ | refine blk_alloc ?_ _)); refine blk_put (cs := #[.int .i64 x565000_27, .int .i64 0]) ?_ 1 _ rfl; (with_reducible repeat (first | refine blk_drewN ?_ _ | refine blk_drew ?_ | refine blk_alloc ?_ _)); refine blk_put (cs := #[.int .i64 0, .int .i64 0]) ?_ 0 _ rfl; exact bk BK551.out) Try.underlying45 rfl (by kernel_rfl)) rfl ?_
        exact ⟨by first | rfl | (simp [errW_none, errW_some] <;> rfl) | (simp only [← hji6]; first | rfl | (simp [errW_none, errW_some] <;> rfl)) | (simp [*, errW_none, errW_some] <;> rfl), by exact sw105 HI0.out, by exact bw HB.out, by exact kw HK.out⟩
  ·
   rw [if_neg c10] at H
   exact absurd H (by simp)
 ·
  rw [if_neg c9] at H
  exact absurd H (by simp)

end Go.Proofs.Ytejfaenmgdkaoaa.P
