-- Written by a program of this session (wip/tool).
import Derived.Test.YtongmkdapcgmfaaPx0
import Derived.Test.YtongmkdapcgmfaaPx69
import Derived.Test.YtongmkdapcgmfaaPx71
namespace Go.Proofs.Ytongmkdapcgmfaa.P
open Go.RowKit Go.Proofs.YtongmkdapcgmfaaW.PrintWords Go.Proofs.YtongmkdapcgmfaaW.PrintLast Go.Proofs.YtongmkdapcgmfaaW.PrintMore
attribute [local go_sem] max2_int min2_int max_two min_two max_three min_three max_four min_four   -- for this text's walks alone
set_option linter.unusedVariables false
set_option linter.unusedSimpArgs false

/-! ### laws_szThing: function 68 -/
def laws_szThing.f (k : Nat) (l0_0 : List Int) (l0_1 : List (S126)) (a1 : Int) : Option (Int) := (laws_szIntS.f l0_0 a1).bind fun t724 => (if t724 < 0 then (some (-1)) else ((laws_szFieldS.f k l0_1 t724).bind fun t725 => (if t725 < 0 then (some (-1)) else (some t725))))
theorem laws_szThing.mono : ∀ a0 a1 a2 k, LeO (laws_szThing.f k a0 a1 a2) (laws_szThing.f (k + 1) a0 a1 a2) := by
 intro a0 a1 a2 k
 unfold laws_szThing.f
 repeat' first
   | (with_reducible exact laws_szFieldS.mono _ _ _)
   | (with_reducible exact LeO.refl _)
   | (with_reducible exact LeO.none _)
   | (with_reducible refine LeO.ite ?_ ?_)
   | (with_reducible refine LeO.bind ?_ (fun _ => ?_))
   | exact laws_szFieldS.mono _ _ _
   | exact LeO.none _
   | refine LeO.ite ?_ ?_
   | refine LeO.bind ?_ (fun _ => ?_)
set_option maxHeartbeats 8000000 in
set_option maxRecDepth 100000 in
theorem laws_szThing.calls (k : Nat) (A0_0 : Option Addr) (c0_0 : Nat) (l0_0 : List Int) (A0_1 : Option Addr) (c0_1 : Nat) (l0_1 : List (S126)) (a1 : Int) (r : Int) (w : World) (hr0_0 : Kd.C (Kd.int .i64) w A0_0 l0_0.length l0_0) (hc0_0 : l0_0.length ≤ c0_0) (hr0_1 : Kd.C k126 w A0_1 l0_1.length l0_1) (hc0_1 : l0_1.length ≤ c0_1) (h : laws_szThing.f k l0_0 l0_1 a1 = some r) :
  Calls Try.prog 68 #[.agg #[.slice A0_0 l0_0.length c0_0, .slice A0_1 l0_1.length c0_1], .int .i64 a1] w fun e w' => e = .returned (.int .i64 r) ∧ Below w.heap.size w w' := by
 have hu90 := Try.underlying90
 have HR0_0 := Aside0.mk hr0_0
 have HC0_0 := Aside0.mk hc0_0
 clear hr0_0 hc0_0
 have HR0_1 := Aside0.mk hr0_1
 have HC0_1 := Aside0.mk hc0_1
 clear hr0_1 hc0_1
 have HB := Aside0.mk (Below.refl w.heap.size w)
 have H : ((laws_szIntS.f l0_0 a1).bind fun t724 => (if t724 < 0 then (some (-1)) else ((laws_szFieldS.f k l0_1 t724).bind fun t725 => (if t725 < 0 then (some (-1)) else (some t725))))) = some r := h
 clear h
 replace H := Option.bind_eq_some_iff.mp H
 obtain ⟨t724, A30, H⟩ := H
 replace H : (if t724 < 0 then (some (-1)) else ((laws_szFieldS.f k l0_1 t724).bind fun t725 => (if t725 < 0 then (some (-1)) else (some t725)))) = some r := H
 have A3 := Aside0.mk A30
 clear A30
 by_cases c4 : t724 < 0
 ·
  rw [if_pos c4] at H
  have c4b0 : decide (t724 < 0) = true := decide_eq_true c4
  clear c4
  obtain rfl := Option.some.inj H
  go_enter Try.func68, Try.ntmps68
  go_wp2_with (first | ((with_reducible refine gate_dst (N := 2) rfl ?_); refine box_event ?hg (N := 2) ?hd (cs := #[.slice A0_0 l0_0.length c0_0, .slice A0_1 l0_1.length c0_1]) (t := 90) ?hr ?_; (case hd => rfl); (case hg => rfl); (case hr => first | (go_simp; done) | (go_simp; rfl)); intro gb723 hg w5 hbox hb; have n0_ := Aside0.mk (below_step (by exact bw HB.out) hb); have n1_ := Aside0.mk (hbox); have n2_ := Aside0.mk ((by rw [hg]; exact (below_size (by exact bw HB.out)) : w.heap.size ≤ gb723)); have n3_ := Aside0.mk ((by rw [hg]; exact (below_size (by exact bw HB.out)) : w.heap.size ≤ gb723)); clear HB; have HB := n0_; have BK723 := n1_; have GW723 := n2_; have GE723 := n3_; clear n0_ n1_ n2_ n3_; clear hb hbox hg; have hcz6_0 : w5.cell? ⟨gb723, 0, none⟩ = some (.slice A0_0 l0_0.length c0_0) := (blk_cell BK723.out 0).trans rfl; have hcz6_1 : w5.cell? ⟨gb723, 1, none⟩ = some (.slice A0_1 l0_1.length c0_1) := (blk_cell BK723.out 1).trans rfl; have hfz6_0 := blk_frozen BK723.out 0; have hfz6_1 := blk_frozen BK723.out 1) | ((with_reducible refine gate_callee (f := 91) rfl ?_); refine gl (some 8) Try.func91 #[.slice A0_0 l0_0.length c0_0, .int .i64 a1] ?_; (with_reducible refine (laws_szIntS.calls _ _ l0_0 a1 t724 _ ?side1 ?side2 A3.out).mono ?_); (case side1 => repeat (first | exact (Kd.C_below HR0_0.out HB.out) | (with_reducible refine Kd.C_alloc ?_ _) | (with_reducible refine Kd.C_drewN ?_ _) | (with_reducible refine Kd.C_drew ?_))); (case side2 => exact HC0_0.out); rintro e w' ⟨rfl, ⟨nd, rfl⟩⟩; refine ⟨_, rfl, ?_⟩))
  go_ret
  exact ⟨by first | rfl | (simp [errW_none, errW_some] <;> rfl) | (simp [*, errW_none, errW_some] <;> rfl), by exact bw HB.out⟩
 ·
  rw [if_neg c4] at H
  have c4b0 : decide (t724 < 0) = false := decide_eq_false c4
  clear c4
  replace H := Option.bind_eq_some_iff.mp H
  obtain ⟨t725, A70, H⟩ := H
  replace H : (if t725 < 0 then (some (-1)) else (some t725)) = some r := H
  have A7 := Aside0.mk A70
  clear A70
  by_cases c8 : t725 < 0
  ·
   rw [if_pos c8] at H
   have c8b0 : decide (t725 < 0) = true := decide_eq_true c8
   clear c8
   obtain rfl := Option.some.inj H
   go_enter Try.func68, Try.ntmps68
   go_wp2_with (first | ((with_reducible refine gate_dst (N := 2) rfl ?_); refine box_event ?hg (N := 2) ?hd (cs := #[.slice A0_0 l0_0.length c0_0, .slice A0_1 l0_1.length c0_1]) (t := 90) ?hr ?_; (case hd => rfl); (case hg => rfl); (case hr => first | (go_simp; done) | (go_simp; rfl)); intro gb723 hg w9 hbox hb; have n0_ := Aside0.mk (below_step (by exact bw HB.out) hb); have n1_ := Aside0.mk (hbox); have n2_ := Aside0.mk ((by rw [hg]; exact (below_size (by exact bw HB.out)) : w.heap.size ≤ gb723)); have n3_ := Aside0.mk ((by rw [hg]; exact (below_size (by exact bw HB.out)) : w.heap.size ≤ gb723)); clear HB; have HB := n0_; have BK723 := n1_; have GW723 := n2_; have GE723 := n3_; clear n0_ n1_ n2_ n3_; clear hb hbox hg; have hcz10_0 : w9.cell? ⟨gb723, 0, none⟩ = some (.slice A0_0 l0_0.length c0_0) := (blk_cell BK723.out 0).trans rfl; have hcz10_1 : w9.cell? ⟨gb723, 1, none⟩ = some (.slice A0_1 l0_1.length c0_1) := (blk_cell BK723.out 1).trans rfl; have hfz10_0 := blk_frozen BK723.out 0; have hfz10_1 := blk_frozen BK723.out 1) | ((with_reducible refine gate_callee (f := 91) rfl ?_); refine gl (some 8) Try.func91 #[.slice A0_0 l0_0.length c0_0, .int .i64 a1] ?_; (with_reducible refine (laws_szIntS.calls _ _ l0_0 a1 t724 _ ?side1 ?side2 A3.out).mono ?_); (case side1 => repeat (first | exact (Kd.C_below HR0_0.out HB.out) | (with_reducible refine Kd.C_alloc ?_ _) | (with_reducible refine Kd.C_drewN ?_ _) | (with_reducible refine Kd.C_drew ?_))); (case side2 => exact HC0_0.out); rintro e w' ⟨rfl, ⟨nd, rfl⟩⟩; refine ⟨_, rfl, ?_⟩) | ((with_reducible refine gate_callee (f := 92) rfl ?_); refine gl (some 14) Try.func92 #[.slice A0_1 l0_1.length c0_1, .int .i64 t724] ?_; (with_reducible refine (laws_szFieldS.calls k _ _ l0_1 t724 t725 _ ?side1 ?side2 A7.out).mono ?_); (case side1 => repeat (first | exact (Kd.C_below HR0_1.out (by exact bw HB.out)) | exact HR0_1.out | (with_reducible refine Kd.C_alloc ?_ _) | (with_reducible refine Kd.C_drewN ?_ _) | (with_reducible refine Kd.C_drew ?_))); (case side2 => exact HC0_1.out); rintro e w11 ⟨rfl, hb⟩; refine ⟨_, rfl, ?_⟩; have n0_ := Aside0.mk (blk_below (g := gb723) (o := .cells #[.slice A0_0 l0_0.length c0_0, .slice A0_1 l0_1.length c0_1] 90 (0, 0)) (by exact bk BK723.out) hb); have n1_ := Aside0.mk (below_step (by exact bw HB.out) hb); clear BK723; clear HB; have BK723 := n0_; have HB := n1_; clear n0_ n1_; (try clear hb); (try clear hb2); (try clear hk); (try clear hi)))
   go_ret
   exact ⟨by first | rfl | (simp [errW_none, errW_some] <;> rfl) | (simp [*, errW_none, errW_some] <;> rfl), by exact bw HB.out⟩
  ·
   rw [if_neg c8] at H
   have c8b0 : decide (t725 < 0) = false := decide_eq_false c8
   clear c8
   obtain rfl := Option.some.inj H
   go_enter Try.func68, Try.ntmps68
   go_wp2_with (first | ((with_reducible refine gate_dst (N := 2) rfl ?_); refine box_event ?hg (N := 2) ?hd (cs := #[.slice A0_0 l0_0.length c0_0, .slice A0_1 l0_1.length c0_1]) (t := 90) ?hr ?_; (case hd => rfl); (case hg => rfl); (case hr => first | (go_simp; done) | (go_simp; rfl)); intro gb723 hg w12 hbox hb; have n0_ := Aside0.mk (below_step (by exact bw HB.out) hb); have n1_ := Aside0.mk (hbox); have n2_ := Aside0.mk ((by rw [hg]; exact (below_size (by exact bw HB.out)) : w.heap.size ≤ gb723)); have n3_ := Aside0.mk ((by rw [hg]; exact (below_size (by exact bw HB.out)) : w.heap.size ≤ gb723)); clear HB; have HB := n0_; have BK723 := n1_; have GW723 := n2_; have GE723 := n3_; clear n0_ n1_ n2_ n3_; clear hb hbox hg; have hcz13_0 : w12.cell? ⟨gb723, 0, none⟩ = some (.slice A0_0 l0_0.length c0_0) := (blk_cell BK723.out 0).trans rfl; have hcz13_1 : w12.cell? ⟨gb723, 1, none⟩ = some (.slice A0_1 l0_1.length c0_1) := (blk_cell BK723.out 1).trans rfl; have hfz13_0 := blk_frozen BK723.out 0; have hfz13_1 := blk_frozen BK723.out 1) | ((with_reducible refine gate_callee (f := 91) rfl ?_); refine gl (some 8) Try.func91 #[.slice A0_0 l0_0.length c0_0, .int .i64 a1] ?_; (with_reducible refine (laws_szIntS.calls _ _ l0_0 a1 t724 _ ?side1 ?side2 A3.out).mono ?_); (case side1 => repeat (first | exact (Kd.C_below HR0_0.out HB.out) | (with_reducible refine Kd.C_alloc ?_ _) | (with_reducible refine Kd.C_drewN ?_ _) | (with_reducible refine Kd.C_drew ?_))); (case side2 => exact HC0_0.out); rintro e w' ⟨rfl, ⟨nd, rfl⟩⟩; refine ⟨_, rfl, ?_⟩) | ((with_reducible refine gate_callee (f := 92) rfl ?_); refine gl (some 14) Try.func92 #[.slice A0_1 l0_1.length c0_1, .int .i64 t724] ?_; (with_reducible refine (laws_szFieldS.calls k _ _ l0_1 t724 t725 _ ?side1 ?side2 A7.out).mono ?_); (case side1 => repeat (first | exact (Kd.C_below HR0_1.out (by exact bw HB.out)) | exact HR0_1.out | (with_reducible refine Kd.C_alloc ?_ _) | (with_reducible refine Kd.C_drewN ?_ _) | (with_reducible refine Kd.C_drew ?_))); (case side2 => exact HC0_1.out); rintro e w14 ⟨rfl, hb⟩; refine ⟨_, rfl, ?_⟩; have n0_ := Aside0.mk (blk_below (g := gb723) (o := .cells #[.slice A0_0 l0_0.length c0_0, .slice A0_1 l0_1.length c0_1] 90 (0, 0)) (by exact bk BK723.out) hb); have n1_ := Aside0.mk (below_step (by exact bw HB.out) hb); clear BK723; clear HB; have BK723 := n0_; have HB := n1_; clear n0_ n1_; (try clear hb); (try clear hb2); (try clear hk); (try clear hi)))
   go_ret
   exact ⟨by first | rfl | (simp [errW_none, errW_some] <;> rfl) | (simp [*, errW_none, errW_some] <;> rfl), by exact bw HB.out⟩

end Go.Proofs.Ytongmkdapcgmfaa.P
