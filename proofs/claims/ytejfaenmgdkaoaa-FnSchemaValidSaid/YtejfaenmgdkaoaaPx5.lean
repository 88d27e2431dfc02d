-- Written by a program of this session (wip/tool).
import Derived.Test.YtejfaenmgdkaoaaPx0
import Derived.Test.YtejfaenmgdkaoaaPx1
import Derived.Test.YtejfaenmgdkaoaaPx3
import Derived.Test.YtejfaenmgdkaoaaPx4
namespace Go.Proofs.Ytejfaenmgdkaoaa.P
open Go.RowKit Go.Proofs.YtejfaenmgdkaoaaW.PrintWords Go.Proofs.YtejfaenmgdkaoaaW.PrintLast Go.Proofs.YtejfaenmgdkaoaaW.PrintMore
attribute [local go_sem] max2_int min2_int max_two min_two max_three min_three max_four min_four   -- for this text's walks alone
set_option linter.unusedVariables false
set_option linter.unusedSimpArgs false

/-! ### spec_DrawSchemaValid: function 11 -/
def spec_DrawSchemaValid.f (k : Nat) (l0 : List Int) : Option ((List (S83)) × (List (S83))) := (spec_l20Open.f l0).bind fun bt149 => ((spec_l20Schema.f k bt149.1 bt149.2 2).bind fun bt152 => (some (bt152.1, bt152.2.1)))
theorem spec_DrawSchemaValid.mono : ∀ a0 k, LeO (spec_DrawSchemaValid.f k a0) (spec_DrawSchemaValid.f (k + 1) a0) := by
 intro a0 k
 unfold spec_DrawSchemaValid.f
 repeat' first
   | (with_reducible exact spec_l20Schema.mono _ _ _ _)
   | (with_reducible exact LeO.refl _)
   | (with_reducible exact LeO.none _)
   | (with_reducible refine LeO.ite ?_ ?_)
   | (with_reducible refine LeO.bind ?_ (fun _ => ?_))
   | exact spec_l20Schema.mono _ _ _ _
   | exact LeO.none _
   | refine LeO.ite ?_ ?_
   | refine LeO.bind ?_ (fun _ => ?_)
set_option maxHeartbeats 8000000 in
set_option maxRecDepth 100000 in
theorem spec_DrawSchemaValid.calls (k : Nat) (A0 : Option Addr) (c0 : Nat) (l0 : List Int) (r1 : List (S83)) (r2 : List (S83)) (w : World) (hr0 : Kd.C (Kd.int .u8) w A0 l0.length l0) (hc0 : l0.length ≤ c0) (h : spec_DrawSchemaValid.f k l0 = some (r1, r2)) :
  Calls Try.prog 11 #[.slice A0 l0.length c0] w fun e w' => ∃ v0_ v1_ : Value, e = .returned (.agg #[v0_, v1_]) ∧ Kd.Q k83 83 w' w.heap.size (fun k_ => some k_ ≠ (v1_ : Value).ownBlock) v0_ r1 ∧ Kd.R k83 83 w' w.heap.size (fun k_ => some k_ ≠ (v0_ : Value).ownBlock) v1_ r2 ∧ Below w.heap.size w w' := by
 have hu25 := Try.underlying25
 have HR0 := Aside0.mk hr0
 have HC0 := Aside0.mk hc0
 clear hr0 hc0
 have HB := Aside0.mk (Below.refl w.heap.size w)
 have H : ((spec_l20Open.f l0).bind fun bt149 => ((spec_l20Schema.f k bt149.1 bt149.2 2).bind fun bt152 => (some (bt152.1, bt152.2.1)))) = some (r1, r2) := h
 clear h
 replace H := Option.bind_eq_some_iff.mp H
 obtain ⟨⟨t149, t150⟩, A20, H⟩ := H
 replace H : ((spec_l20Schema.f k t149 t150 2).bind fun bt152 => (some (bt152.1, bt152.2.1))) = some (r1, r2) := H
 have A2 := Aside0.mk A20
 clear A20
 replace H := Option.bind_eq_some_iff.mp H
 obtain ⟨⟨t152, t155, t158⟩, A30, H⟩ := H
 replace H : (some (t152, t155)) = some (r1, r2) := H
 have A3 := Aside0.mk A30
 clear A30
 simp only [Option.some.injEq, Prod.mk.injEq] at H
 obtain ⟨rfl, rfl⟩ := H
 go_enter Try.func11, Try.ntmps11
 go_wp2_with (first | ((with_reducible refine gate_dst (N := 2) rfl ?_); refine box_event ?hg (N := 2) ?hd (cs := #[.slice none 0 0, .slice none 0 0]) (t := 25) ?hr ?_; (case hd => rfl); (case hg => rfl); (case hr => first | (go_simp; done) | (go_simp; rfl)); intro gb148 hg w4 hbox hb; have n0_ := Aside0.mk (below_step (by exact bw HB.out) hb); have n1_ := Aside0.mk (hbox); have n2_ := Aside0.mk ((by rw [hg]; exact (below_size (by exact bw HB.out)) : w.heap.size ≤ gb148)); have n3_ := Aside0.mk ((by rw [hg]; exact (below_size (by exact bw HB.out)) : w.heap.size ≤ gb148)); clear HB; have HB := n0_; have BK148 := n1_; have GW148 := n2_; have GE148 := n3_; clear n0_ n1_ n2_ n3_; clear hb hbox hg) | ((with_reducible refine gate_callee (f := 42) rfl ?_); refine gl (some 4) Try.func42 #[.slice A0 l0.length c0] ?_; (with_reducible refine (spec_l20Open.calls _ _ l0 t149 t150 w _ ?side1 ?side2 ?side3 A2.out).mono ?_); (case side1 => exact bw HB.out); (case side2 => exact HR0.out); (case side3 => exact HC0.out); rintro e w5 ⟨g151, rfl, hi, hb, hb2⟩; refine ⟨_, rfl, ?_⟩; have n0_ := Aside0.mk (blk_below (g := gb148) (o := .cells #[.slice none 0 0, .slice none 0 0] 25 (0, 0)) (by exact bk BK148.out) hb2); have n1_ := Aside0.mk (hb); have n2_ := Aside0.mk (hi); have n3_ := Aside0.mk (IsS105.ne_blk hi (blk_below (g := gb148) (o := .cells #[.slice none 0 0, .slice none 0 0] 25 (0, 0)) (by exact bk BK148.out) hb2) (by decide)); have n4_ := Aside0.mk (Ne.symm (IsS105.ne_blk hi (blk_below (g := gb148) (o := .cells #[.slice none 0 0, .slice none 0 0] 25 (0, 0)) (by exact bk BK148.out) hb2) (by decide))); clear BK148; clear HB; have BK148 := n0_; have HB := n1_; have HI151 := n2_; have NB151_148 := n3_; have NB148_151 := n4_; clear n0_ n1_ n2_ n3_ n4_; (try clear hb); (try clear hb2); (try clear hk); (try clear hi)) | ((with_reducible refine gate_callee (f := 41) rfl ?_); refine gl (some 5) Try.func41 #[.pointer (some ⟨g151, 0, none⟩), .int .i64 2] ?_; (with_reducible refine (spec_l20Schema.calls k g151 t149 t150 2 t152 t155 t158 w _ ?side1 ?side2 A3.out).mono ?_); (case side1 => exact sw105 HI151.out); (case side2 => exact bw HB.out); rintro e w6 ⟨v153, v156, rfl, ho0, ho1, hi, hb, hk⟩; refine ⟨_, rfl, ?_⟩; have n0_ := Aside0.mk (KeepBut.blk hk (g' := gb148) (o := .cells #[.slice none 0 0, .slice none 0 0] 25 (0, 0)) (by exact bk BK148.out) NB148_151.out (by simp)); have n1_ := Aside0.mk (Kd.Q_lower ho0 (below_size (by exact bw HB.out))); have n2_ := Aside0.mk (Kd.R_lower ho1 (below_size (by exact bw HB.out))); have n3_ := Aside0.mk (hb); have n4_ := Aside0.mk (hi); clear BK148; clear HB; clear HI151; have BK148 := n0_; have HO154 := n1_; have HO157 := n2_; have HB := n3_; have HI151 := n4_; clear n0_ n1_ n2_ n3_ n4_; (try clear hb); (try clear hb2); (try clear hk); (try clear hi); (try clear ho0); (try clear ho1); obtain ⟨Ao7, co7, eo7, _⟩ := Kd.Q_slice HO154.out; subst eo7; have hnb8 := NB148_151.out; have hnc8 := NB151_148.out; have hcz9_0 : w6.cell? ⟨gb148, 0, none⟩ = some (.slice none 0 0) := (blk_cell BK148.out 0).trans rfl; have hcz9_1 : w6.cell? ⟨gb148, 1, none⟩ = some (.slice none 0 0) := (blk_cell BK148.out 1).trans rfl; have hfz9_0 := blk_frozen BK148.out 0; have hfz9_1 := blk_frozen BK148.out 1; obtain ⟨Ao10, co10, eo10⟩ := Kd.R_slice HO157.out; subst eo10))
 refine bodyPost_ret (results_cell_row rfl _ _ gb148 25 #[.slice Ao7 t152.length co7, .slice Ao10 t155.length co10] (0, 0) _ rfl (by (with_reducible repeat (first | refine blk_drewN ?_ _ | refine blk_drew ?_ | refine blk_alloc ?_ _)); refine blk_put (cs := #[.slice Ao7 t152.length co7, .slice none 0 0]) ?_ 1 _ rfl; (with_reducible repeat (first | refine blk_drewN ?_ _ | refine blk_drew ?_ | refine blk_alloc ?_ _)); refine blk_put (cs := #[.slice none 0 0, .slice none 0 0]) ?_ 0 _ rfl; exact bk BK148.out) Try.underlying25 rfl (by kernel_rfl)) rfl ?_
 exact ⟨_, _, by first | rfl | (simp [errW_none, errW_some] <;> rfl) | (simp [*, errW_none, errW_some] <;> rfl), by (with_reducible repeat (first | apply Kd.Q_alloc | apply Kd.Q_drewN | apply Kd.Q_drew)); exact Kd.Q_mono (Kd.Q_far (p := ⟨gb148, 1, none⟩) (Kd.Q_far (p := ⟨gb148, 0, none⟩) (Kd.Q_types HO154.out BK148.out (by decide)) (fun _ hk => hk.2) (.slice Ao7 t152.length co7)) (fun _ hk => hk.2) (.slice Ao10 t155.length co10)) (fun _ hk => hk.1), by (with_reducible repeat (first | apply Kd.R_alloc | apply Kd.R_drewN | apply Kd.R_drew)); exact Kd.R_mono (Kd.R_far (p := ⟨gb148, 1, none⟩) (Kd.R_far (p := ⟨gb148, 0, none⟩) (Kd.R_types HO157.out BK148.out (by decide)) (fun _ hk => hk.2) (.slice Ao7 t152.length co7)) (fun _ hk => hk.2) (.slice Ao10 t155.length co10)) (fun _ hk => hk.1), by exact bw HB.out⟩

end Go.Proofs.Ytejfaenmgdkaoaa.P
