-- Written by a program of this session (wip/tool).
import Derived.Test.YtejfaenmgdkaoaaPx0
import Derived.Test.YtejfaenmgdkaoaaPx1
import Derived.Test.YtejfaenmgdkaoaaPx4
import Derived.Test.YtejfaenmgdkaoaaPx82
namespace Go.Proofs.Ytejfaenmgdkaoaa.P
open Go.RowKit Go.Proofs.YtejfaenmgdkaoaaW.PrintWords Go.Proofs.YtejfaenmgdkaoaaW.PrintLast Go.Proofs.YtejfaenmgdkaoaaW.PrintMore
attribute [local go_sem] max2_int min2_int max_two min_two max_three min_three max_four min_four   -- for this text's walks alone
set_option linter.unusedVariables false
set_option linter.unusedSimpArgs false

/-! ### spec_DrawExprSize: function 37 -/
def spec_DrawExprSize.f (k : Nat) (l0 : List Int) : Option (Int × Int × ByteArray × (List (S55))) := (spec_l20Open.f l0).bind fun bt943 => ((spec_l20Expr.f k bt943.1 bt943.2 4).bind fun bt946 => (some (bt946.1, bt946.2.1, bt946.2.2.1, bt946.2.2.2.1)))
theorem spec_DrawExprSize.mono : ∀ a0 k, LeO (spec_DrawExprSize.f k a0) (spec_DrawExprSize.f (k + 1) a0) := by
 intro a0 k
 unfold spec_DrawExprSize.f
 repeat' first
   | (with_reducible exact spec_l20Expr.mono _ _ _ _)
   | (with_reducible exact LeO.refl _)
   | (with_reducible exact LeO.none _)
   | (with_reducible refine LeO.ite ?_ ?_)
   | (with_reducible refine LeO.bind ?_ (fun _ => ?_))
   | exact spec_l20Expr.mono _ _ _ _
   | exact LeO.none _
   | refine LeO.ite ?_ ?_
   | refine LeO.bind ?_ (fun _ => ?_)
set_option maxHeartbeats 8000000 in
set_option maxRecDepth 100000 in
theorem spec_DrawExprSize.calls (k : Nat) (A0 : Option Addr) (c0 : Nat) (l0 : List Int) (r1 : Int) (r2 : Int) (r3 : ByteArray) (r4 : List (S55)) (w : World) (hr0 : Kd.C (Kd.int .u8) w A0 l0.length l0) (hc0 : l0.length ≤ c0) (h : spec_DrawExprSize.f k l0 = some (r1, r2, r3, r4)) :
  Calls Try.prog 37 #[.slice A0 l0.length c0] w fun e w' => ∃ v3_ : Value, e = .returned (.agg #[.int .i64 r1, .int .i64 r2, .string r3, v3_]) ∧ Kd.V k55 55 w' w.heap.size (fun k_ => (w.heap.size ≤ k_)) v3_ r4 ∧ Below w.heap.size w w' := by
 have hu55 := Try.underlying55
 have HR0 := Aside0.mk hr0
 have HC0 := Aside0.mk hc0
 clear hr0 hc0
 have HB := Aside0.mk (Below.refl w.heap.size w)
 have H : ((spec_l20Open.f l0).bind fun bt943 => ((spec_l20Expr.f k bt943.1 bt943.2 4).bind fun bt946 => (some (bt946.1, bt946.2.1, bt946.2.2.1, bt946.2.2.2.1)))) = some (r1, r2, r3, r4) := h
 clear h
 replace H := Option.bind_eq_some_iff.mp H
 obtain ⟨⟨t943, t944⟩, A20, H⟩ := H
 replace H : ((spec_l20Expr.f k t943 t944 4).bind fun bt946 => (some (bt946.1, bt946.2.1, bt946.2.2.1, bt946.2.2.2.1))) = some (r1, r2, r3, r4) := H
 have A2 := Aside0.mk A20
 clear A20
 replace H := Option.bind_eq_some_iff.mp H
 obtain ⟨⟨t946, t947, t948, t949, t952⟩, A30, H⟩ := H
 replace H : (some (t946, t947, t948, t949)) = some (r1, r2, r3, r4) := H
 have A3 := Aside0.mk A30
 clear A30
 simp only [Option.some.injEq, Prod.mk.injEq] at H
 obtain ⟨rfl, rfl, rfl, rfl⟩ := H
 go_enter Try.func37, Try.ntmps37
 go_wp2_with (first | ((with_reducible refine gate_dst (N := 2) rfl ?_); refine box_event ?hg (N := 2) ?hd (cs := #[.int .i64 0, .int .i64 0, .string (⟨#[]⟩ : ByteArray), .slice none 0 0]) (t := 55) ?hr ?_; (case hd => rfl); (case hg => rfl); (case hr => first | (go_simp; done) | (go_simp; rfl)); intro gb942 hg w4 hbox hb; have n0_ := Aside0.mk (below_step (by exact bw HB.out) hb); have n1_ := Aside0.mk (hbox); have n2_ := Aside0.mk ((by rw [hg]; exact (below_size (by exact bw HB.out)) : w.heap.size ≤ gb942)); have n3_ := Aside0.mk ((by rw [hg]; exact (below_size (by exact bw HB.out)) : w.heap.size ≤ gb942)); clear HB; have HB := n0_; have BK942 := n1_; have GW942 := n2_; have GE942 := n3_; clear n0_ n1_ n2_ n3_; clear hb hbox hg) | ((with_reducible refine gate_callee (f := 42) rfl ?_); refine gl (some 4) Try.func42 #[.slice A0 l0.length c0] ?_; (with_reducible refine (spec_l20Open.calls _ _ l0 t943 t944 w _ ?side1 ?side2 ?side3 A2.out).mono ?_); (case side1 => exact bw HB.out); (case side2 => exact HR0.out); (case side3 => exact HC0.out); rintro e w5 ⟨g945, rfl, hi, hb, hb2⟩; refine ⟨_, rfl, ?_⟩; have n0_ := Aside0.mk (blk_below (g := gb942) (o := .cells #[.int .i64 0, .int .i64 0, .string (⟨#[]⟩ : ByteArray), .slice none 0 0] 55 (0, 0)) (by exact bk BK942.out) hb2); have n1_ := Aside0.mk (hb); have n2_ := Aside0.mk (hi); have n3_ := Aside0.mk (IsS105.ne_blk hi (blk_below (g := gb942) (o := .cells #[.int .i64 0, .int .i64 0, .string (⟨#[]⟩ : ByteArray), .slice none 0 0] 55 (0, 0)) (by exact bk BK942.out) hb2) (by decide)); have n4_ := Aside0.mk (Ne.symm (IsS105.ne_blk hi (blk_below (g := gb942) (o := .cells #[.int .i64 0, .int .i64 0, .string (⟨#[]⟩ : ByteArray), .slice none 0 0] 55 (0, 0)) (by exact bk BK942.out) hb2) (by decide))); clear BK942; clear HB; have BK942 := n0_; have HB := n1_; have HI945 := n2_; have NB945_942 := n3_; have NB942_945 := n4_; clear n0_ n1_ n2_ n3_ n4_; (try clear hb); (try clear hb2); (try clear hk); (try clear hi)) | ((with_reducible refine gate_callee (f := 69) rfl ?_); refine gl (some 5) Try.func69 #[.pointer (some ⟨g945, 0, none⟩), .int .i64 4] ?_; (with_reducible refine (spec_l20Expr.calls k g945 t943 t944 4 t946 t947 t948 t949 t952 w _ ?side1 ?side2 A3.out).mono ?_); (case side1 => exact sw105 HI945.out); (case side2 => exact bw HB.out); rintro e w6 ⟨v950, rfl, ho0, hi, hb, hk⟩; refine ⟨_, rfl, ?_⟩; have n0_ := Aside0.mk (KeepBut.blk hk (g' := gb942) (o := .cells #[.int .i64 0, .int .i64 0, .string (⟨#[]⟩ : ByteArray), .slice none 0 0] 55 (0, 0)) (by exact bk BK942.out) NB942_945.out (by simp)); have n1_ := Aside0.mk (Kd.V_lower (Kd.V_mono (ok' := fun k_ => (w.heap.size ≤ k_) ∧ k_ ≠ gb942 ∧ k_ ≠ g945) ho0 (fun k_ hk_ => ⟨(Nat.le_trans (below_size (by exact bw HB.out)) hk_), (Kd.freshB (g := gb942) (o := .cells #[.int .i64 0, .int .i64 0, .string (⟨#[]⟩ : ByteArray), .slice none 0 0] 55 (0, 0)) (by exact bk BK942.out) k_ hk_), (IsS105.fresh (by exact sw105 HI945.out) k_ hk_)⟩)) (below_size (by exact bw HB.out))); have n2_ := Aside0.mk (hb); have n3_ := Aside0.mk (hi); clear BK942; clear HB; clear HI945; have BK942 := n0_; have HO951 := n1_; have HB := n2_; have HI945 := n3_; clear n0_ n1_ n2_ n3_; (try clear hb); (try clear hb2); (try clear hk); (try clear hi); (try clear ho0); have hnb7 := NB942_945.out; have hnc7 := NB945_942.out; have hcz8_0 : w6.cell? ⟨gb942, 0, none⟩ = some (.int .i64 0) := (blk_cell BK942.out 0).trans rfl; have hcz8_1 : w6.cell? ⟨gb942, 1, none⟩ = some (.int .i64 0) := (blk_cell BK942.out 1).trans rfl; have hcz8_2 : w6.cell? ⟨gb942, 2, none⟩ = some (.string (⟨#[]⟩ : ByteArray)) := (blk_cell BK942.out 2).trans rfl; have hcz8_3 : w6.cell? ⟨gb942, 3, none⟩ = some (.slice none 0 0) := (blk_cell BK942.out 3).trans rfl; have hfz8_0 := blk_frozen BK942.out 0; have hfz8_1 := blk_frozen BK942.out 1; have hfz8_2 := blk_frozen BK942.out 2; have hfz8_3 := blk_frozen BK942.out 3; obtain ⟨Ao9, co9, eo9⟩ := Kd.V_slice HO951.out; subst eo9))
 refine bodyPost_ret (results_cell_row rfl _ _ gb942 55 #[.int .i64 t946, .int .i64 t947, .string t948, .slice Ao9 t949.length co9] (0, 0) _ rfl (by (with_reducible repeat (first | refine blk_drewN ?_ _ | refine blk_drew ?_ | refine blk_alloc ?_ _)); refine blk_put (cs := #[.int .i64 t946, .int .i64 t947, .string t948, .slice none 0 0]) ?_ 3 _ rfl; (with_reducible repeat (first | refine blk_drewN ?_ _ | refine blk_drew ?_ | refine blk_alloc ?_ _)); refine blk_put (cs := #[.int .i64 t946, .int .i64 t947, .string (⟨#[]⟩ : ByteArray), .slice none 0 0]) ?_ 2 _ rfl; (with_reducible repeat (first | refine blk_drewN ?_ _ | refine blk_drew ?_ | refine blk_alloc ?_ _)); refine blk_put (cs := #[.int .i64 t946, .int .i64 0, .string (⟨#[]⟩ : ByteArray), .slice none 0 0]) ?_ 1 _ rfl; (with_reducible repeat (first | refine blk_drewN ?_ _ | refine blk_drew ?_ | refine blk_alloc ?_ _)); refine blk_put (cs := #[.int .i64 0, .int .i64 0, .string (⟨#[]⟩ : ByteArray), .slice none 0 0]) ?_ 0 _ rfl; exact bk BK942.out) Try.underlying55 rfl (by kernel_rfl)) rfl ?_
 exact ⟨_, by first | rfl | (simp [errW_none, errW_some] <;> rfl) | (simp [*, errW_none, errW_some] <;> rfl), by (with_reducible repeat (first | apply Kd.V_alloc | apply Kd.V_drewN | apply Kd.V_drew)); exact Kd.V_mono (Kd.V_far (p := ⟨gb942, 3, none⟩) (Kd.V_far (p := ⟨gb942, 2, none⟩) (Kd.V_far (p := ⟨gb942, 1, none⟩) (Kd.V_far (p := ⟨gb942, 0, none⟩) (Kd.V_mono HO951.out (fun k_ hk => (⟨hk, okp hk⟩ : _ ∧ k_ ≠ gb942))) (fun _ hk => hk.2) (.int .i64 t946)) (fun _ hk => hk.2) (.int .i64 t947)) (fun _ hk => hk.2) (.string t948)) (fun _ hk => hk.2) (.slice Ao9 t949.length co9)) (fun _ hk => hk.1.1), by exact bw HB.out⟩

end Go.Proofs.Ytejfaenmgdkaoaa.P
