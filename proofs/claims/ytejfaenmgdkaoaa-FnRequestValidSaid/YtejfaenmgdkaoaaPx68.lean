-- Written by a program of this session (wip/tool).
import Derived.Test.YtejfaenmgdkaoaaPx0
import Derived.Test.YtejfaenmgdkaoaaPx2
import Derived.Test.YtejfaenmgdkaoaaPx5
import Derived.Test.YtejfaenmgdkaoaaPx30
import Derived.Test.YtejfaenmgdkaoaaPx67
namespace Go.Proofs.Ytejfaenmgdkaoaa.P
open Go.RowKit Go.Proofs.YtejfaenmgdkaoaaW.PrintWords Go.Proofs.YtejfaenmgdkaoaaW.PrintLast Go.Proofs.YtejfaenmgdkaoaaW.PrintMore
attribute [local go_sem] max2_int min2_int max_two min_two max_three min_three max_four min_four   -- for this text's walks alone
set_option linter.unusedVariables false
set_option linter.unusedSimpArgs false

/-! ### spec_DrawRequestValid: function 29 -/
def spec_DrawRequestValid.f (k : Nat) (l0 : List Int) : Option ((List (S43)) × Int × Int × Int × (List (S47))) := (spec_l20Open.f l0).bind fun bt608 => ((spec_l20Things.f k bt608.1 bt608.2 9).bind fun bt611 => ((spec_l20Request.f k bt608.1 bt611.2 bt611.1 2).bind fun bt615 => (some (bt611.1, bt615.1, bt615.2.1, bt615.2.2.1, bt615.2.2.2.1))))
theorem spec_DrawRequestValid.mono : ∀ a0 k, LeO (spec_DrawRequestValid.f k a0) (spec_DrawRequestValid.f (k + 1) a0) := by
 intro a0 k
 unfold spec_DrawRequestValid.f
 repeat' first
   | (with_reducible exact spec_l20Request.mono _ _ _ _ _)
   | (with_reducible exact spec_l20Things.mono _ _ _ _)
   | (with_reducible exact LeO.refl _)
   | (with_reducible exact LeO.none _)
   | (with_reducible refine LeO.ite ?_ ?_)
   | (with_reducible refine LeO.bind ?_ (fun _ => ?_))
   | exact spec_l20Request.mono _ _ _ _ _
   | exact spec_l20Things.mono _ _ _ _
   | exact LeO.none _
   | refine LeO.ite ?_ ?_
   | refine LeO.bind ?_ (fun _ => ?_)
set_option maxHeartbeats 8000000 in
set_option maxRecDepth 100000 in
theorem spec_DrawRequestValid.calls (k : Nat) (A0 : Option Addr) (c0 : Nat) (l0 : List Int) (r1 : List (S43)) (r2 : Int) (r3 : Int) (r4 : Int) (r5 : List (S47)) (w : World) (hr0 : Kd.C (Kd.int .u8) w A0 l0.length l0) (hc0 : l0.length ≤ c0) (h : spec_DrawRequestValid.f k l0 = some (r1, r2, r3, r4, r5)) :
  Calls Try.prog 29 #[.slice A0 l0.length c0] w fun e w' => ∃ v0_ v4_ : Value, e = .returned (.tuple #[v0_, .agg #[.int .i64 r2, .int .i64 r3, .int .i64 r4, v4_]]) ∧ Kd.S k43 43 w' w.heap.size (fun k_ => some k_ ≠ (v4_ : Value).ownBlock) v0_ r1 ∧ Kd.R k47 47 w' w.heap.size (fun _ => True) v4_ r5 ∧ Below w.heap.size w w' := by
 have hu63 := Try.underlying63
 have HR0 := Aside0.mk hr0
 have HC0 := Aside0.mk hc0
 clear hr0 hc0
 have HB := Aside0.mk (Below.refl w.heap.size w)
 have H : ((spec_l20Open.f l0).bind fun bt608 => ((spec_l20Things.f k bt608.1 bt608.2 9).bind fun bt611 => ((spec_l20Request.f k bt608.1 bt611.2 bt611.1 2).bind fun bt615 => (some (bt611.1, bt615.1, bt615.2.1, bt615.2.2.1, bt615.2.2.2.1))))) = some (r1, r2, r3, r4, r5) := h
 clear h
 replace H := Option.bind_eq_some_iff.mp H
 obtain ⟨⟨t608, t609⟩, A20, H⟩ := H
 replace H : ((spec_l20Things.f k t608 t609 9).bind fun bt611 => ((spec_l20Request.f k t608 bt611.2 bt611.1 2).bind fun bt615 => (some (bt611.1, bt615.1, bt615.2.1, bt615.2.2.1, bt615.2.2.2.1)))) = some (r1, r2, r3, r4, r5) := H
 have A2 := Aside0.mk A20
 clear A20
 replace H := Option.bind_eq_some_iff.mp H
 obtain ⟨⟨t611, t614⟩, A30, H⟩ := H
 replace H : ((spec_l20Request.f k t608 t614 t611 2).bind fun bt615 => (some (t611, bt615.1, bt615.2.1, bt615.2.2.1, bt615.2.2.2.1))) = some (r1, r2, r3, r4, r5) := H
 have A3 := Aside0.mk A30
 clear A30
 replace H := Option.bind_eq_some_iff.mp H
 obtain ⟨⟨t615, t616, t617, t618, t621⟩, A40, H⟩ := H
 replace H : (some (t611, t615, t616, t617, t618)) = some (r1, r2, r3, r4, r5) := H
 have A4 := Aside0.mk A40
 clear A40
 simp only [Option.some.injEq, Prod.mk.injEq] at H
 obtain ⟨rfl, rfl, rfl, rfl, rfl⟩ := H
 go_enter Try.func29, Try.ntmps29
 go_wp2_with (first | ((with_reducible refine gate_dst (N := 3) rfl ?_); refine box_event ?hg (N := 3) ?hd (cs := #[.int .i64 0, .int .i64 0, .int .i64 0, .slice none 0 0]) (t := 63) ?hr ?_; (case hd => rfl); (case hg => rfl); (case hr => first | (go_simp; done) | (go_simp; rfl)); intro gb607 hg w5 hbox hb; have n0_ := Aside0.mk (below_step (by exact bw HB.out) hb); have n1_ := Aside0.mk (hbox); have n2_ := Aside0.mk ((by rw [hg]; exact (below_size (by exact bw HB.out)) : w.heap.size ≤ gb607)); have n3_ := Aside0.mk ((by rw [hg]; exact (below_size (by exact bw HB.out)) : w.heap.size ≤ gb607)); clear HB; have HB := n0_; have BK607 := n1_; have GW607 := n2_; have GE607 := n3_; clear n0_ n1_ n2_ n3_; clear hb hbox hg) | ((with_reducible refine gate_callee (f := 42) rfl ?_); refine gl (some 7) Try.func42 #[.slice A0 l0.length c0] ?_; (with_reducible refine (spec_l20Open.calls _ _ l0 t608 t609 w _ ?side1 ?side2 ?side3 A2.out).mono ?_); (case side1 => exact bw HB.out); (case side2 => exact HR0.out); (case side3 => exact HC0.out); rintro e w6 ⟨g610, rfl, hi, hb, hb2⟩; refine ⟨_, rfl, ?_⟩; have n0_ := Aside0.mk (blk_below (g := gb607) (o := .cells #[.int .i64 0, .int .i64 0, .int .i64 0, .slice none 0 0] 63 (0, 0)) (by exact bk BK607.out) hb2); have n1_ := Aside0.mk (hb); have n2_ := Aside0.mk (hi); have n3_ := Aside0.mk (IsS105.ne_blk hi (blk_below (g := gb607) (o := .cells #[.int .i64 0, .int .i64 0, .int .i64 0, .slice none 0 0] 63 (0, 0)) (by exact bk BK607.out) hb2) (by decide)); have n4_ := Aside0.mk (Ne.symm (IsS105.ne_blk hi (blk_below (g := gb607) (o := .cells #[.int .i64 0, .int .i64 0, .int .i64 0, .slice none 0 0] 63 (0, 0)) (by exact bk BK607.out) hb2) (by decide))); clear BK607; clear HB; have BK607 := n0_; have HB := n1_; have HI610 := n2_; have NB610_607 := n3_; have NB607_610 := n4_; clear n0_ n1_ n2_ n3_ n4_; (try clear hb); (try clear hb2); (try clear hk); (try clear hi)) | ((with_reducible refine gate_callee (f := 50) rfl ?_); refine gl (some 9) Try.func50 #[.pointer (some ⟨g610, 0, none⟩), .int .i64 9] ?_; (with_reducible refine (spec_l20Things.calls k g610 t608 t609 9 t611 t614 w _ ?side1 ?side2 A3.out).mono ?_); (case side1 => exact sw105 HI610.out); (case side2 => exact bw HB.out); rintro e w7 ⟨v612, rfl, ho0, hi, hb, hk⟩; refine ⟨_, rfl, ?_⟩; have n0_ := Aside0.mk (KeepBut.blk hk (g' := gb607) (o := .cells #[.int .i64 0, .int .i64 0, .int .i64 0, .slice none 0 0] 63 (0, 0)) (by exact bk BK607.out) NB607_610.out (by simp)); have n1_ := Aside0.mk (Kd.S_lower ho0 (below_size (by exact bw HB.out))); have n2_ := Aside0.mk (hb); have n3_ := Aside0.mk (hi); clear BK607; clear HB; clear HI610; have BK607 := n0_; have HO613 := n1_; have HB := n2_; have HI610 := n3_; clear n0_ n1_ n2_ n3_; (try clear hb); (try clear hb2); (try clear hk); (try clear hi); (try clear ho0); obtain ⟨Ao8, co8, eo8⟩ := Kd.S_slice HO613.out; subst eo8) | ((with_reducible refine gate_callee (f := 66) rfl ?_); refine gl (some 13) Try.func66 #[.pointer (some ⟨g610, 0, none⟩), .slice Ao8 t611.length co8, .int .i64 2] ?_; (with_reducible refine (spec_l20Request.calls k g610 t608 t614 _ _ t611 2 t615 t616 t617 t618 t621 w _ ?side1 ?side2 ?side3 ?side4 A4.out).mono ?_); (case side1 => exact sw105 HI610.out); (case side2 => exact bw HB.out); (case side3 => exact Kd.C_foot_own ((Kd.S_R (IsS105.apartS (show IsS105 w _ g610 t608 t614 from by exact sw105 HI610.out) (by exact Kd.xS HO613.out) (by decide)))) (fun _ h_ => h_.2)); (case side4 => exact (Kd.S_reads' HO613.out).2.1); rintro e w9 ⟨v619, rfl, ho0, hi, hb, hk⟩; refine ⟨_, rfl, ?_⟩; have n0_ := Aside0.mk (KeepBut.blk hk (g' := gb607) (o := .cells #[.int .i64 0, .int .i64 0, .int .i64 0, .slice none 0 0] 63 (0, 0)) (by exact bk BK607.out) NB607_610.out (by simp)); have n1_ := Aside0.mk (Kd.S_mono (Kd.S_told (Kd.S_oldK (IsS105.apartS (show IsS105 w _ g610 t608 t614 from by exact sw105 HI610.out) (by exact Kd.xS HO613.out) (by decide)) hk) (Kd.R_base ho0)) (fun _ h_ => h_.1)); have n2_ := Aside0.mk (Kd.R_lower ho0 (below_size (by exact bw HB.out))); have n3_ := Aside0.mk (hb); have n4_ := Aside0.mk (hi); clear BK607; clear HO613; clear HB; clear HI610; have BK607 := n0_; have HO613 := n1_; have HO620 := n2_; have HB := n3_; have HI610 := n4_; clear n0_ n1_ n2_ n3_ n4_; (try clear hb); (try clear hb2); (try clear hk); (try clear hi); (try clear ho0); have hnb10 := NB607_610.out; have hnc10 := NB610_607.out; have hcz11_0 : w9.cell? ⟨gb607, 0, none⟩ = some (.int .i64 0) := (blk_cell BK607.out 0).trans rfl; have hcz11_1 : w9.cell? ⟨gb607, 1, none⟩ = some (.int .i64 0) := (blk_cell BK607.out 1).trans rfl; have hcz11_2 : w9.cell? ⟨gb607, 2, none⟩ = some (.int .i64 0) := (blk_cell BK607.out 2).trans rfl; have hcz11_3 : w9.cell? ⟨gb607, 3, none⟩ = some (.slice none 0 0) := (blk_cell BK607.out 3).trans rfl; have hfz11_0 := blk_frozen BK607.out 0; have hfz11_1 := blk_frozen BK607.out 1; have hfz11_2 := blk_frozen BK607.out 2; have hfz11_3 := blk_frozen BK607.out 3; obtain ⟨Ao12, co12, eo12⟩ := Kd.R_slice HO620.out; subst eo12))
 refine bodyPost_ret (results_tc rfl _ _ gb607 63 #[.int .i64 t615, .int .i64 t616, .int .i64 t617, .slice Ao12 t618.length co12] (0, 0) _ rfl (by (with_reducible repeat (first | refine blk_drewN ?_ _ | refine blk_drew ?_ | refine blk_alloc ?_ _)); refine blk_put (cs := #[.int .i64 t615, .int .i64 t616, .int .i64 t617, .slice none 0 0]) ?_ 3 _ rfl; (with_reducible repeat (first | refine blk_drewN ?_ _ | refine blk_drew ?_ | refine blk_alloc ?_ _)); refine blk_put (cs := #[.int .i64 t615, .int .i64 t616, .int .i64 0, .slice none 0 0]) ?_ 2 _ rfl; (with_reducible repeat (first | refine blk_drewN ?_ _ | refine blk_drew ?_ | refine blk_alloc ?_ _)); refine blk_put (cs := #[.int .i64 t615, .int .i64 0, .int .i64 0, .slice none 0 0]) ?_ 1 _ rfl; (with_reducible repeat (first | refine blk_drewN ?_ _ | refine blk_drew ?_ | refine blk_alloc ?_ _)); refine blk_put (cs := #[.int .i64 0, .int .i64 0, .int .i64 0, .slice none 0 0]) ?_ 0 _ rfl; exact bk BK607.out) Try.underlying63 rfl (by kernel_rfl)) rfl ?_
 exact ⟨_, _, by first | rfl | (simp [errW_none, errW_some] <;> rfl) | (simp [*, errW_none, errW_some] <;> rfl), by (with_reducible repeat (first | apply Kd.S_alloc | apply Kd.S_drewN | apply Kd.S_drew)); exact Kd.S_mono (Kd.S_far (p := ⟨gb607, 3, none⟩) (Kd.S_far (p := ⟨gb607, 2, none⟩) (Kd.S_far (p := ⟨gb607, 1, none⟩) (Kd.S_far (p := ⟨gb607, 0, none⟩) (Kd.S_types HO613.out BK607.out (by decide)) (fun _ hk => hk.2) (.int .i64 t615)) (fun _ hk => hk.2) (.int .i64 t616)) (fun _ hk => hk.2) (.int .i64 t617)) (fun _ hk => hk.2) (.slice Ao12 t618.length co12)) (fun _ hk => hk.1.2), by (with_reducible repeat (first | apply Kd.R_alloc | apply Kd.R_drewN | apply Kd.R_drew)); exact Kd.R_mono (Kd.R_far (p := ⟨gb607, 3, none⟩) (Kd.R_far (p := ⟨gb607, 2, none⟩) (Kd.R_far (p := ⟨gb607, 1, none⟩) (Kd.R_far (p := ⟨gb607, 0, none⟩) (Kd.R_types HO620.out BK607.out (by decide)) (fun _ hk => hk.2) (.int .i64 t615)) (fun _ hk => hk.2) (.int .i64 t616)) (fun _ hk => hk.2) (.int .i64 t617)) (fun _ hk => hk.2) (.slice Ao12 t618.length co12)) (fun _ hk => trivial), by exact bw HB.out⟩

end Go.Proofs.Ytejfaenmgdkaoaa.P
