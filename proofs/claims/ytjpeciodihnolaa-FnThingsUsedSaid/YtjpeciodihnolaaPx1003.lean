-- Written by a program of this session (wip/tool).
import Derived.Test.YtjpeciodihnolaaPx0
import Derived.Test.YtjpeciodihnolaaPx1009
import Derived.Test.YtjpeciodihnolaaPx1023
import Derived.Test.YtjpeciodihnolaaPx1051
namespace Go.Proofs.Ytjpeciodihnolaa.P
open Go.RowKit Go.Proofs.YtjpeciodihnolaaW.PrintWords Go.Proofs.YtjpeciodihnolaaW.PrintLast Go.Proofs.YtjpeciodihnolaaW.PrintMore
attribute [local go_sem] max2_int min2_int max_two min_two max_three min_three max_four min_four   -- for this text's walks alone
set_option linter.unusedVariables false
set_option linter.unusedSimpArgs false

/-! ### laws_FnThingsUsed: function 3 -/
mutual
def laws_FnThingsUsed.j0 : Nat → Int → Bool → Int → Int → ByteArray → List (S25) → Option (Bool)
 | 0, _, _, _, _, _, _ => none
 | k + 1, x4, x25, x441000, x441001, x441002, x441003 => if x25 = true then (if x4 = (-1) then ((laws_alive.f k).bind fun t444 => (some t444)) else (if x4 = x441001 then ((laws_alive.f k).bind fun t445 => (some t445)) else (some false))) else (laws_FnThingsUsed.l0 k x4 (-1) 0 x441000 x441001 x441002 x441003)
def laws_FnThingsUsed.l0 : Nat → Int → Int → Int → Int → Int → ByteArray → List (S25) → Option (Bool)
 | 0, _, _, _, _, _, _, _ => none
 | k + 1, x4, x5, x6, x441000, x441001, x441002, x441003 => if x6 < (x441003.length : Int) then (if 0 ≤ x6 then ((impl_ThingsUsed.f k ((rd_T25 x441003 x6).f0) ((rd_T25 x441003 x6).f1) ((rd_T25 x441003 x6).f2) ((rd_T25 x441003 x6).f3)).bind fun t447 => (laws_FnThingsUsed.l0 k x4 (mx x5 t447) (wrap64 (x6 + 1)) x441000 x441001 x441002 x441003)) else (none)) else (some (x4 == x5))
end
def laws_FnThingsUsed.f (k : Nat) (l0 : List Int) : Option (Bool) := if (l0.length : Int) > 1048576 then (some true) else ((spec_DrawThingsUsed.f k l0).bind fun bt434 => ((impl_ThingsUsed.f k bt434.1 bt434.2.1 bt434.2.2.1 bt434.2.2.2).bind fun t441 => ((spec_ThingsUsed.f k bt434.1 bt434.2.1 bt434.2.2.1 bt434.2.2.2).bind fun t442 => (if t441 = t442 then ((impl_ExprValid.f k bt434.1 bt434.2.1 bt434.2.2.1 bt434.2.2.2).bind fun t443 => (if t443 = true then (laws_FnThingsUsed.j0 k t441 (bt434.1 == 3) bt434.1 bt434.2.1 bt434.2.2.1 bt434.2.2.2) else (laws_FnThingsUsed.j0 k t441 true bt434.1 bt434.2.1 bt434.2.2.1 bt434.2.2.2))) else (some false)))))
theorem laws_FnThingsUsed.mono_l : ∀ k, (∀ y0 y1 y2 y3 y4 y5, LeO (laws_FnThingsUsed.j0 k y0 y1 y2 y3 y4 y5) (laws_FnThingsUsed.j0 (k + 1) y0 y1 y2 y3 y4 y5)) ∧ (∀ y0 y1 y2 y3 y4 y5 y6, LeO (laws_FnThingsUsed.l0 k y0 y1 y2 y3 y4 y5 y6) (laws_FnThingsUsed.l0 (k + 1) y0 y1 y2 y3 y4 y5 y6))
 | 0 => ⟨fun _ _ _ _ _ _ r h => by simp [laws_FnThingsUsed.j0] at h, fun _ _ _ _ _ _ _ r h => by simp [laws_FnThingsUsed.l0] at h⟩
 | k + 1 => by
  obtain ⟨ih0, ih1⟩ := laws_FnThingsUsed.mono_l k
  refine ⟨?_, ?_⟩
  ·
   intro y0 y1 y2 y3 y4 y5
   unfold laws_FnThingsUsed.j0
   repeat' first
   | (with_reducible exact ih0 _ _ _ _ _ _)
   | (with_reducible exact ih1 _ _ _ _ _ _ _)
   | (with_reducible exact impl_ExprValid.mono _ _ _ _ _)
   | (with_reducible exact impl_ThingsUsed.mono _ _ _ _ _)
   | (with_reducible exact laws_alive.mono _)
   | (with_reducible exact spec_DrawThingsUsed.mono _ _)
   | (with_reducible exact spec_ThingsUsed.mono _ _ _ _ _)
   | (with_reducible exact LeO.refl _)
   | (with_reducible exact LeO.none _)
   | (with_reducible refine LeO.ite ?_ ?_)
   | (with_reducible refine LeO.bind ?_ (fun _ => ?_))
   | exact ih0 _ _ _ _ _ _
   | exact ih1 _ _ _ _ _ _ _
   | exact impl_ExprValid.mono _ _ _ _ _
   | exact impl_ThingsUsed.mono _ _ _ _ _
   | exact laws_alive.mono _
   | exact spec_DrawThingsUsed.mono _ _
   | exact spec_ThingsUsed.mono _ _ _ _ _
   | exact LeO.none _
   | refine LeO.ite ?_ ?_
   | refine LeO.bind ?_ (fun _ => ?_)
  ·
   intro y0 y1 y2 y3 y4 y5 y6
   unfold laws_FnThingsUsed.l0
   repeat' first
   | (with_reducible exact ih0 _ _ _ _ _ _)
   | (with_reducible exact ih1 _ _ _ _ _ _ _)
   | (with_reducible exact impl_ExprValid.mono _ _ _ _ _)
   | (with_reducible exact impl_ThingsUsed.mono _ _ _ _ _)
   | (with_reducible exact laws_alive.mono _)
   | (with_reducible exact spec_DrawThingsUsed.mono _ _)
   | (with_reducible exact spec_ThingsUsed.mono _ _ _ _ _)
   | (with_reducible exact LeO.refl _)
   | (with_reducible exact LeO.none _)
   | (with_reducible refine LeO.ite ?_ ?_)
   | (with_reducible refine LeO.bind ?_ (fun _ => ?_))
   | exact ih0 _ _ _ _ _ _
   | exact ih1 _ _ _ _ _ _ _
   | exact impl_ExprValid.mono _ _ _ _ _
   | exact impl_ThingsUsed.mono _ _ _ _ _
   | exact laws_alive.mono _
   | exact spec_DrawThingsUsed.mono _ _
   | exact spec_ThingsUsed.mono _ _ _ _ _
   | exact LeO.none _
   | refine LeO.ite ?_ ?_
   | refine LeO.bind ?_ (fun _ => ?_)
theorem laws_FnThingsUsed.mono : ∀ a0 k, LeO (laws_FnThingsUsed.f k a0) (laws_FnThingsUsed.f (k + 1) a0) := by
 intro a0 k
 obtain ⟨ih0, ih1⟩ := laws_FnThingsUsed.mono_l k
 unfold laws_FnThingsUsed.f
 repeat' first
   | (with_reducible exact ih0 _ _ _ _ _ _)
   | (with_reducible exact ih1 _ _ _ _ _ _ _)
   | (with_reducible exact impl_ExprValid.mono _ _ _ _ _)
   | (with_reducible exact impl_ThingsUsed.mono _ _ _ _ _)
   | (with_reducible exact laws_alive.mono _)
   | (with_reducible exact spec_DrawThingsUsed.mono _ _)
   | (with_reducible exact spec_ThingsUsed.mono _ _ _ _ _)
   | (with_reducible exact LeO.refl _)
   | (with_reducible exact LeO.none _)
   | (with_reducible refine LeO.ite ?_ ?_)
   | (with_reducible refine LeO.bind ?_ (fun _ => ?_))
   | exact ih0 _ _ _ _ _ _
   | exact ih1 _ _ _ _ _ _ _
   | exact impl_ExprValid.mono _ _ _ _ _
   | exact impl_ThingsUsed.mono _ _ _ _ _
   | exact laws_alive.mono _
   | exact spec_DrawThingsUsed.mono _ _
   | exact spec_ThingsUsed.mono _ _ _ _ _
   | exact LeO.none _
   | refine LeO.ite ?_ ?_
   | refine LeO.bind ?_ (fun _ => ?_)
set_option maxHeartbeats 8000000 in
set_option maxRecDepth 100000 in
theorem laws_FnThingsUsed.calls (k : Nat) (A0 : Option Addr) (c0 : Nat) (l0 : List Int) (r : Bool) (w : World) (hr0 : Kd.C (Kd.int .u8) w A0 l0.length l0) (hc0 : l0.length ≤ c0) (h : laws_FnThingsUsed.f k l0 = some r) :
  Calls Try.prog 3 #[.slice A0 l0.length c0] w fun e w' => e = .returned (.bool r) ∧ Below w.heap.size w w' := by
 have hu25 := Try.underlying25
 have HR0 := Aside0.mk hr0
 have HC0 := Aside0.mk hc0
 clear hr0 hc0
 have HB := Aside0.mk (Below.refl w.heap.size w)
 have H : (if (l0.length : Int) > 1048576 then (some true) else ((spec_DrawThingsUsed.f k l0).bind fun bt434 => ((impl_ThingsUsed.f k bt434.1 bt434.2.1 bt434.2.2.1 bt434.2.2.2).bind fun t441 => ((spec_ThingsUsed.f k bt434.1 bt434.2.1 bt434.2.2.1 bt434.2.2.2).bind fun t442 => (if t441 = t442 then ((impl_ExprValid.f k bt434.1 bt434.2.1 bt434.2.2.1 bt434.2.2.2).bind fun t443 => (if t443 = true then (laws_FnThingsUsed.j0 k t441 (bt434.1 == 3) bt434.1 bt434.2.1 bt434.2.2.1 bt434.2.2.2) else (laws_FnThingsUsed.j0 k t441 true bt434.1 bt434.2.1 bt434.2.2.1 bt434.2.2.2))) else (some false)))))) = some r := h
 clear h
 by_cases c2 : (l0.length : Int) > 1048576
 ·
  rw [if_pos c2] at H; have c2b0 : decide (1048576 < (l0.length : Int)) = true := decide_eq_true c2
  have c2b1 : decide (1048576 < l0.length) = true := decide_eq_true (by omega)
  clear c2
  obtain rfl := Option.some.inj H
  go_enter Try.func3, Try.ntmps3
  go_wp2
  go_ret
  exact ⟨by first | rfl | (simp [errW_none, errW_some] <;> rfl) | (simp [*, errW_none, errW_some] <;> rfl), by exact bw HB.out⟩
 ·
  rw [if_neg c2] at H; have c2b0 : decide (1048576 < (l0.length : Int)) = false := decide_eq_false c2
  have c2b1 : decide (1048576 < l0.length) = false := decide_eq_false (by omega)
  clear c2
  replace H := Option.bind_eq_some_iff.mp H
  obtain ⟨⟨t434, t435, t436, t437⟩, A30, H⟩ := H
  replace H : ((impl_ThingsUsed.f k t434 t435 t436 t437).bind fun t441 => ((spec_ThingsUsed.f k t434 t435 t436 t437).bind fun t442 => (if t441 = t442 then ((impl_ExprValid.f k t434 t435 t436 t437).bind fun t443 => (if t443 = true then (laws_FnThingsUsed.j0 k t441 (t434 == 3) t434 t435 t436 t437) else (laws_FnThingsUsed.j0 k t441 true t434 t435 t436 t437))) else (some false)))) = some r := H
  have A3 := Aside0.mk A30
  clear A30
  replace H := Option.bind_eq_some_iff.mp H
  obtain ⟨t441, A40, H⟩ := H
  replace H : ((spec_ThingsUsed.f k t434 t435 t436 t437).bind fun t442 => (if t441 = t442 then ((impl_ExprValid.f k t434 t435 t436 t437).bind fun t443 => (if t443 = true then (laws_FnThingsUsed.j0 k t441 (t434 == 3) t434 t435 t436 t437) else (laws_FnThingsUsed.j0 k t441 true t434 t435 t436 t437))) else (some false))) = some r := H
  have A4 := Aside0.mk A40
  clear A40
  replace H := Option.bind_eq_some_iff.mp H
  obtain ⟨t442, A50, H⟩ := H
  replace H : (if t441 = t442 then ((impl_ExprValid.f k t434 t435 t436 t437).bind fun t443 => (if t443 = true then (laws_FnThingsUsed.j0 k t441 (t434 == 3) t434 t435 t436 t437) else (laws_FnThingsUsed.j0 k t441 true t434 t435 t436 t437))) else (some false)) = some r := H
  have A5 := Aside0.mk A50
  clear A50
  have HC6 := Aside0.mk H
  clear H
  go_enter Try.func3, Try.ntmps3
  go_upto_if 17 with (first | ((with_reducible refine gate_callee (f := 6) rfl ?_); refine gl (some 11) Try.func6 #[.slice A0 l0.length c0] ?_; (with_reducible refine (spec_DrawThingsUsed.calls k _ _ l0 t434 t435 t436 t437 _ ?side1 ?side2 A3.out).mono ?_); (case side1 => repeat (first | exact HR0.out | (with_reducible refine Kd.C_alloc ?_ _) | (with_reducible refine Kd.C_drewN ?_ _) | (with_reducible refine Kd.C_drew ?_))); (case side2 => exact HC0.out); rintro e w7 ⟨v438, rfl, ho0, hb⟩; refine ⟨_, rfl, ?_⟩; have HO439 := Aside0.mk (Kd.V_lower (Kd.V_mono (ok' := fun k_ => True) ho0 (fun k_ hk_ => trivial)) (below_size (by exact bw HB.out))); replace HB := bS HB hb; (try clear hb); (try clear hb2); (try clear hk); (try clear hi); (try clear ho0)) | ((with_reducible refine gate_dst (N := 3) rfl ?_); refine bx 3 #[.int .i64 0, .int .i64 0, .string (⟨#[]⟩ : ByteArray), .slice none 0 0] 25 ?_; intro gb440 hg w8 hbox hb; replace HO439 := Aside0.mk (Kd.V_below (Kd.V_elderB (by exact Kd.xV HO439.out) gb440 (Nat.le_of_eq hg.symm)) hb); have BK440 := Aside0.mk (hbox); have GW440 := gwB HB hg; have GE440 := gwB HB hg; replace HB := bS HB hb; clear hb hbox hg; obtain ⟨hcz9_0, hcz9_1, hcz9_2, hcz9_3⟩ := cs4 BK440.out; obtain ⟨hfz9_0, hfz9_1, hfz9_2, hfz9_3⟩ := fz4 BK440.out; obtain ⟨Ao10, co10, eo10⟩ := Kd.V_slice HO439.out; subst eo10) | ((with_reducible refine gate_callee (f := 7) rfl ?_); refine gl (some 13) Try.func7 #[.agg #[.int .i64 t434, .int .i64 t435, .string t436, .slice Ao10 t437.length co10]] ?_; (with_reducible refine (impl_ThingsUsed.calls k t434 t435 t436 _ _ t437 t441 _ ?side1 ?side2 A4.out).mono ?_); (case side1 => refine (Kd.V_reads' (e := 25) (base := w.heap.size) (ok := fun k_ => (True ∧ k_ ≠ gb440)) (n := t437.length) (c := co10) ?_).2.2; exact (by (with_reducible repeat (first | apply Kd.V_alloc | apply Kd.V_drewN | apply Kd.V_drew)); exact (Kd.V_mono (Kd.V_far (p := ⟨gb440, 3, none⟩) (Kd.V_far (p := ⟨gb440, 2, none⟩) (Kd.V_far (p := ⟨gb440, 1, none⟩) (Kd.V_far (p := ⟨gb440, 0, none⟩) (Kd.V_mono HO439.out (fun k_ hk => (⟨hk, okp hk⟩ : _ ∧ k_ ≠ gb440))) (fun _ hk => hk.2) (.int .i64 t434)) (fun _ hk => hk.2) (.int .i64 t435)) (fun _ hk => hk.2) (.string t436)) (fun _ hk => hk.2) (.slice Ao10 t437.length co10)) (fun _ h_ => h_.1)))); (case side2 => exact (Kd.V_reads' HO439.out).2.1); rintro e w11 ⟨rfl, hb⟩; refine ⟨_, rfl, ?_⟩; replace HO439 := Aside0.mk (Kd.V_below (by (with_reducible repeat (first | apply Kd.V_alloc | apply Kd.V_drewN | apply Kd.V_drew)); exact (Kd.V_mono (Kd.V_far (p := ⟨gb440, 3, none⟩) (Kd.V_far (p := ⟨gb440, 2, none⟩) (Kd.V_far (p := ⟨gb440, 1, none⟩) (Kd.V_far (p := ⟨gb440, 0, none⟩) (Kd.V_mono HO439.out (fun k_ hk => (⟨hk, okp hk⟩ : _ ∧ k_ ≠ gb440))) (fun _ hk => hk.2) (.int .i64 t434)) (fun _ hk => hk.2) (.int .i64 t435)) (fun _ hk => hk.2) (.string t436)) (fun _ hk => hk.2) (.slice Ao10 t437.length co10)) (fun _ h_ => h_.1))) hb); replace BK440 := Aside0.mk (blk_below (g := gb440) (o := .cells #[.int .i64 t434, .int .i64 t435, .string t436, .slice Ao10 t437.length co10] 25 (0, 0)) (bp BK440) hb); replace HB := bS HB hb; (try clear hb); (try clear hb2); (try clear hk); (try clear hi); obtain ⟨hcz12_0, hcz12_1, hcz12_2, hcz12_3⟩ := cs4 BK440.out; obtain ⟨hfz12_0, hfz12_1, hfz12_2, hfz12_3⟩ := fz4 BK440.out) | ((with_reducible refine gate_callee (f := 8) rfl ?_); refine gl (some 16) Try.func8 #[.agg #[.int .i64 t434, .int .i64 t435, .string t436, .slice Ao10 t437.length co10]] ?_; (with_reducible refine (spec_ThingsUsed.calls k t434 t435 t436 _ _ t437 t442 _ ?side1 ?side2 A5.out).mono ?_); (case side1 => repeat (first | exact (Kd.V_reads' HO439.out).2.2 | (with_reducible refine Kd.C_alloc ?_ _) | (with_reducible refine Kd.C_drewN ?_ _) | (with_reducible refine Kd.C_drew ?_))); (case side2 => exact (Kd.V_reads' HO439.out).2.1); rintro e w13 ⟨rfl, hb⟩; refine ⟨_, rfl, ?_⟩; replace HO439 := Aside0.mk (Kd.V_below (by exact Kd.xV HO439.out) hb); replace BK440 := bB BK440 hb; replace HB := bS HB hb; (try clear hb); (try clear hb2); (try clear hk); (try clear hi)))
  (try simp only [Act.put, List.setIfInBounds_toArray, List.set_cons_zero, List.set_cons_succ])
  have H := HC6.out
  clear HC6
  by_cases c14 : t441 = t442
  ·
   rw [if_pos c14] at H; obtain ⟨c14b0, c14b1⟩ := eqY c14; clear c14
   (first | rw [c14b0] | (simp only [i64_w, i32_w]; rw [c14b0]) | rw [c14b2] | rw [c14b1] | skip)
   have HC15 := Aside0.mk H
   clear H
   go_upto_region 7 with (fail)
   go_cut [25] (fun v25 wc => ∃ (kq : Nat) (x25_14 : Bool), v25 = .bool x25_14 ∧ Aside0 (laws_FnThingsUsed.j0 kq t441 x25_14 t434 t435 t436 t437 = some r) ∧ Aside0 (kq ≤ k) ∧ Aside0 (Kd.V k25 25 wc w.heap.size (fun k_ => k_ ≠ gb440) (.slice Ao10 t437.length co10) t437) ∧ Aside0 (wc.heap[gb440]? = some (.cells #[.int .i64 t434, .int .i64 t435, .string t436, (.slice Ao10 t437.length co10)] 25 (0, 0))) ∧ Aside0 (Below w.heap.size w wc))
   case first =>
    have H := HC15.out
    clear HC15
    replace H := Option.bind_eq_some_iff.mp H
    obtain ⟨t443, A160, H⟩ := H
    replace H : (if t443 = true then (laws_FnThingsUsed.j0 k t441 (t434 == 3) t434 t435 t436 t437) else (laws_FnThingsUsed.j0 k t441 true t434 t435 t436 t437)) = some r := H
    have A16 := Aside0.mk A160
    clear A160
    by_cases c17 : t443 = true
    ·
     subst c17
     have H1 : (laws_FnThingsUsed.j0 k t441 (t434 == 3) t434 t435 t436 t437) = some r := by rw [if_pos rfl] at H; exact H
     clear H
     have H := H1
     clear H1
     have H' := Aside0.mk H
     clear H
     have hcz18_0 : w13.cell? ⟨gb440, 0, none⟩ = some (.int .i64 t434) := (blk_cell BK440.out 0).trans rfl
     have hcz18_1 : w13.cell? ⟨gb440, 1, none⟩ = some (.int .i64 t435) := (blk_cell BK440.out 1).trans rfl
     have hcz18_2 : w13.cell? ⟨gb440, 2, none⟩ = some (.string t436) := (blk_cell BK440.out 2).trans rfl
     have hcz18_3 : w13.cell? ⟨gb440, 3, none⟩ = some (.slice Ao10 t437.length co10) := (blk_cell BK440.out 3).trans rfl
     have hfz18_0 := blk_frozen BK440.out 0
     have hfz18_1 := blk_frozen BK440.out 1
     have hfz18_2 := blk_frozen BK440.out 2
     have hfz18_3 := blk_frozen BK440.out 3
     go_wp2_with (first | ((with_reducible refine gate_callee (f := 9) rfl ?_); refine gl (some 19) Try.func9 #[.agg #[.int .i64 t434, .int .i64 t435, .string t436, .slice Ao10 t437.length co10]] ?_; (with_reducible refine (impl_ExprValid.calls k t434 t435 t436 _ _ t437 true _ ?side1 ?side2 A16.out).mono ?_); (case side1 => repeat (first | exact (Kd.V_reads' HO439.out).2.2 | (with_reducible refine Kd.C_alloc ?_ _) | (with_reducible refine Kd.C_drewN ?_ _) | (with_reducible refine Kd.C_drew ?_))); (case side2 => exact (Kd.V_reads' HO439.out).2.1); rintro e w19 ⟨rfl, hb⟩; refine ⟨_, rfl, ?_⟩; replace HO439 := Aside0.mk (Kd.V_below (by exact Kd.xV HO439.out) hb); replace BK440 := bB BK440 hb; replace HB := bS HB hb; (try clear hb); (try clear hb2); (try clear hk); (try clear hi); obtain ⟨hcz20_0, hcz20_1, hcz20_2, hcz20_3⟩ := cs4 BK440.out; obtain ⟨hfz20_0, hfz20_1, hfz20_2, hfz20_3⟩ := fz4 BK440.out))
     go_meet
     case rel => exact ⟨_, ((t434 == 3)), (by first | rfl | (simp; done) | (simp [*]; done)), H', ⟨by first | omega | exact Nat.le_refl _⟩, ⟨by (with_reducible repeat (first | apply Kd.V_alloc | apply Kd.V_drewN | apply Kd.V_drew)); exact Kd.V_mono HO439.out (fun _ hk => hk.2)⟩, ⟨by exact bk BK440.out⟩, ⟨by exact bw HB.out⟩⟩
    ·
     replace c17 := Bool.eq_false_iff.mpr c17
     subst c17
     have H1 : (laws_FnThingsUsed.j0 k t441 true t434 t435 t436 t437) = some r := by rw [if_neg (show ¬ (false = true) by decide)] at H; exact H
     clear H
     have H := H1
     clear H1
     have H' := Aside0.mk H
     clear H
     have hcz21_0 : w13.cell? ⟨gb440, 0, none⟩ = some (.int .i64 t434) := (blk_cell BK440.out 0).trans rfl
     have hcz21_1 : w13.cell? ⟨gb440, 1, none⟩ = some (.int .i64 t435) := (blk_cell BK440.out 1).trans rfl
     have hcz21_2 : w13.cell? ⟨gb440, 2, none⟩ = some (.string t436) := (blk_cell BK440.out 2).trans rfl
     have hcz21_3 : w13.cell? ⟨gb440, 3, none⟩ = some (.slice Ao10 t437.length co10) := (blk_cell BK440.out 3).trans rfl
     have hfz21_0 := blk_frozen BK440.out 0
     have hfz21_1 := blk_frozen BK440.out 1
     have hfz21_2 := blk_frozen BK440.out 2
     have hfz21_3 := blk_frozen BK440.out 3
     go_wp2_with (first | ((with_reducible refine gate_callee (f := 9) rfl ?_); refine gl (some 19) Try.func9 #[.agg #[.int .i64 t434, .int .i64 t435, .string t436, .slice Ao10 t437.length co10]] ?_; (with_reducible refine (impl_ExprValid.calls k t434 t435 t436 _ _ t437 false _ ?side1 ?side2 A16.out).mono ?_); (case side1 => repeat (first | exact (Kd.V_reads' HO439.out).2.2 | (with_reducible refine Kd.C_alloc ?_ _) | (with_reducible refine Kd.C_drewN ?_ _) | (with_reducible refine Kd.C_drew ?_))); (case side2 => exact (Kd.V_reads' HO439.out).2.1); rintro e w22 ⟨rfl, hb⟩; refine ⟨_, rfl, ?_⟩; replace HO439 := Aside0.mk (Kd.V_below (by exact Kd.xV HO439.out) hb); replace BK440 := bB BK440 hb; replace HB := bS HB hb; (try clear hb); (try clear hb2); (try clear hk); (try clear hi)))
     go_meet
     case rel => exact ⟨_, (true), (by first | rfl | (simp; done) | (simp [*]; done)), H', ⟨by first | omega | exact Nat.le_refl _⟩, ⟨by (with_reducible repeat (first | apply Kd.V_alloc | apply Kd.V_drewN | apply Kd.V_drew)); exact Kd.V_mono HO439.out (fun _ hk => hk.2)⟩, ⟨by exact bk BK440.out⟩, ⟨by exact bw HB.out⟩⟩
   case rest =>
    clear HC15
    try clear c1
    try clear c2
    try clear c2b0
    try clear c2b1
    try clear p2
    try clear c3
    try clear c6
    try clear c7
    try clear c8
    try clear c9
    try clear c14
    try clear c14b0
    try clear c14b1
    try clear c14b2
    try clear c17
    try clear hcz12_0
    try clear hcz12_1
    try clear hcz12_2
    try clear hcz12_3
    try clear hcz18_0
    try clear hcz18_1
    try clear hcz18_2
    try clear hcz18_3
    try clear hcz20_0
    try clear hcz20_1
    try clear hcz20_2
    try clear hcz20_3
    try clear hcz21_0
    try clear hcz21_1
    try clear hcz21_2
    try clear hcz21_3
    try clear hcz9_0
    try clear hcz9_1
    try clear hcz9_2
    try clear hcz9_3
    try clear hfz12_0
    try clear hfz12_1
    try clear hfz12_2
    try clear hfz12_3
    try clear hfz18_0
    try clear hfz18_1
    try clear hfz18_2
    try clear hfz18_3
    try clear hfz20_0
    try clear hfz20_1
    try clear hfz20_2
    try clear hfz20_3
    try clear hfz21_0
    try clear hfz21_1
    try clear hfz21_2
    try clear hfz21_3
    try clear hfz9_0
    try clear hfz9_1
    try clear hfz9_2
    try clear hfz9_3
    obtain ⟨kq, x25_14, rfl, HA, HJ14, HO_441003, BK440, HB⟩ := hcut
    cases kq with
    | zero => exact absurd HA.out (by simp [laws_FnThingsUsed.j0])
    | succ kj14 =>
     have H := HA.out
     clear HA
     simp only [laws_FnThingsUsed.j0] at H
     by_cases c23 : x25_14 = true
     ·
      subst c23
      have H1 : (if t441 = (-1) then ((laws_alive.f kj14).bind fun t444 => (some t444)) else (if t441 = t435 then ((laws_alive.f kj14).bind fun t445 => (some t445)) else (some false))) = some r := by rw [if_pos rfl] at H; exact H
      clear H
      have H := H1
      clear H1
      by_cases c24 : t441 = (-1)
      ·
       rw [if_pos c24] at H; obtain ⟨c24b0, c24b1⟩ := eqY c24; clear c24
       replace H := Option.bind_eq_some_iff.mp H
       obtain ⟨t444, A250, H⟩ := H
       replace H : (some t444) = some r := H
       have A25 := Aside0.mk A250
       clear A250
       obtain rfl := Option.some.inj H
       go_wp2_with (first | (go_at_call 10; (with_reducible refine (laws_alive.calls kj14  t444 _ A25.out).mono ?_); rintro e w' ⟨rfl, ⟨nd, rfl⟩⟩))
       go_ret
       exact ⟨by first | rfl | (simp [errW_none, errW_some] <;> rfl) | (simp [*, errW_none, errW_some] <;> rfl), by exact bw HB.out⟩
      ·
       rw [if_neg c24] at H; obtain ⟨c24b0, c24b1⟩ := eqN c24
       by_cases c26 : t441 = t435
       ·
        rw [if_pos c26] at H; obtain ⟨c26b0, c26b1⟩ := eqY c26; clear c26
        replace H := Option.bind_eq_some_iff.mp H
        obtain ⟨t445, A270, H⟩ := H
        replace H : (some t445) = some r := H
        have A27 := Aside0.mk A270
        clear A270
        obtain rfl := Option.some.inj H
        have hcz28_0 : wc.cell? ⟨gb440, 0, none⟩ = some (.int .i64 t434) := (blk_cell BK440.out 0).trans rfl
        have hcz28_1 : wc.cell? ⟨gb440, 1, none⟩ = some (.int .i64 t435) := (blk_cell BK440.out 1).trans rfl
        have hcz28_2 : wc.cell? ⟨gb440, 2, none⟩ = some (.string t436) := (blk_cell BK440.out 2).trans rfl
        have hcz28_3 : wc.cell? ⟨gb440, 3, none⟩ = some (.slice Ao10 t437.length co10) := (blk_cell BK440.out 3).trans rfl
        have hfz28_0 := blk_frozen BK440.out 0
        have hfz28_1 := blk_frozen BK440.out 1
        have hfz28_2 := blk_frozen BK440.out 2
        have hfz28_3 := blk_frozen BK440.out 3
        go_wp2_with (first | (go_at_call 10; (with_reducible refine (laws_alive.calls kj14  t445 _ A27.out).mono ?_); rintro e w' ⟨rfl, ⟨nd, rfl⟩⟩))
        go_ret
        exact ⟨by first | rfl | (simp [errW_none, errW_some] <;> rfl) | (simp [*, errW_none, errW_some] <;> rfl), by exact bw HB.out⟩
       ·
        rw [if_neg c26] at H; obtain ⟨c26b0, c26b1⟩ := eqN c26
        obtain rfl := Option.some.inj H
        have hcz29_0 : wc.cell? ⟨gb440, 0, none⟩ = some (.int .i64 t434) := (blk_cell BK440.out 0).trans rfl
        have hcz29_1 : wc.cell? ⟨gb440, 1, none⟩ = some (.int .i64 t435) := (blk_cell BK440.out 1).trans rfl
        have hcz29_2 : wc.cell? ⟨gb440, 2, none⟩ = some (.string t436) := (blk_cell BK440.out 2).trans rfl
        have hcz29_3 : wc.cell? ⟨gb440, 3, none⟩ = some (.slice Ao10 t437.length co10) := (blk_cell BK440.out 3).trans rfl
        have hfz29_0 := blk_frozen BK440.out 0
        have hfz29_1 := blk_frozen BK440.out 1
        have hfz29_2 := blk_frozen BK440.out 2
        have hfz29_3 := blk_frozen BK440.out 3
        go_wp2
        go_ret
        exact ⟨by first | rfl | (simp [errW_none, errW_some] <;> rfl) | (simp [*, errW_none, errW_some] <;> rfl), by exact bw HB.out⟩
     ·
      replace c23 := Bool.eq_false_iff.mpr c23
      subst c23
      have H1 : (laws_FnThingsUsed.l0 kj14 t441 (-1) 0 t434 t435 t436 t437) = some r := by rw [if_neg (show ¬ (false = true) by decide)] at H; exact H
      clear H
      have H := H1
      clear H1
      have H' := Aside0.mk H
      clear H
      go_wp2
      go_loopg [5, 6] kj14 (fun kq v5 v6 w' => ∃ (x5_2 : Int) (x6_2 : Int), v5 = .int .i64 x5_2 ∧ v6 = .int .i64 x6_2 ∧ Aside0 (laws_FnThingsUsed.l0 kq t441 x5_2 x6_2 t434 t435 t436 t437 = some r) ∧ Aside0 (kq ≤ kj14) ∧ Aside0 (Kd.V k25 25 w' w.heap.size (fun k_ => k_ ≠ gb440) (.slice Ao10 t437.length co10) t437) ∧ Aside0 (w'.heap[gb440]? = some (.cells #[.int .i64 t434, .int .i64 t435, .string t436, (.slice Ao10 t437.length co10)] 25 (0, 0))) ∧ Aside0 (Below w.heap.size w w'))
      case atStart => exact ⟨((-1)), (0), (by first | rfl | (simp; done) | (simp [*]; done)), (by first | rfl | (simp; done) | (simp [*]; done)), H', ⟨Nat.le_refl _⟩, ⟨by exact Kd.xV HO_441003.out⟩, ⟨by exact bk BK440.out⟩, ⟨by exact bw HB.out⟩⟩
      case round =>
       clear H'
       try clear c1
       try clear c2
       try clear c2b0
       try clear c2b1
       try clear p2
       try clear c3
       try clear c6
       try clear c7
       try clear c8
       try clear c9
       try clear c14
       try clear c14b0
       try clear c14b1
       try clear c14b2
       try clear c17
       try clear c23
       try clear c24
       try clear c24b0
       try clear c24b1
       try clear c26
       try clear c26b0
       try clear c26b1
       try clear hcz12_0
       try clear hcz12_1
       try clear hcz12_2
       try clear hcz12_3
       try clear hcz18_0
       try clear hcz18_1
       try clear hcz18_2
       try clear hcz18_3
       try clear hcz20_0
       try clear hcz20_1
       try clear hcz20_2
       try clear hcz20_3
       try clear hcz21_0
       try clear hcz21_1
       try clear hcz21_2
       try clear hcz21_3
       try clear hcz28_0
       try clear hcz28_1
       try clear hcz28_2
       try clear hcz28_3
       try clear hcz29_0
       try clear hcz29_1
       try clear hcz29_2
       try clear hcz29_3
       try clear hcz9_0
       try clear hcz9_1
       try clear hcz9_2
       try clear hcz9_3
       try clear hfz12_0
       try clear hfz12_1
       try clear hfz12_2
       try clear hfz12_3
       try clear hfz18_0
       try clear hfz18_1
       try clear hfz18_2
       try clear hfz18_3
       try clear hfz20_0
       try clear hfz20_1
       try clear hfz20_2
       try clear hfz20_3
       try clear hfz21_0
       try clear hfz21_1
       try clear hfz21_2
       try clear hfz21_3
       try clear hfz28_0
       try clear hfz28_1
       try clear hfz28_2
       try clear hfz28_3
       try clear hfz29_0
       try clear hfz29_1
       try clear hfz29_2
       try clear hfz29_3
       try clear hfz9_0
       try clear hfz9_1
       try clear hfz9_2
       try clear hfz9_3
       try clear p2
       obtain ⟨x5_2, x6_2, rfl, rfl, HA, HK2, HO_441003, BK440, HB⟩ := hrel
       cases gk with
       | zero => exact absurd HA.out (by simp [laws_FnThingsUsed.l0])
       | succ k2 =>
        have H := HA.out
        clear HA
        simp only [laws_FnThingsUsed.l0] at H
        by_cases c30 : x6_2 < (t437.length : Int)
        ·
         rw [if_pos c30] at H; have c30b0 : decide (x6_2 < (t437.length : Int)) = true := decide_eq_true c30; clear c30
         by_cases c31 : 0 ≤ x6_2
         ·
          rw [if_pos c31] at H; have c31b0 : decide (0 ≤ x6_2) = true := decide_eq_true c31; clear c31
          replace H := Option.bind_eq_some_iff.mp H
          obtain ⟨t447, A320, H⟩ := H
          replace H : (laws_FnThingsUsed.l0 k2 t441 (mx x5_2 t447) (wrap64 (x6_2 + 1)) t434 t435 t436 t437) = some r := H
          have A32 := Aside0.mk A320
          clear A320
          obtain ⟨ji33, hji33⟩ : ∃ j_ : Int, (mx x5_2 t447) = j_ := ⟨_, rfl⟩
          replace H : (laws_FnThingsUsed.l0 k2 t441 ji33 (wrap64 (x6_2 + 1)) t434 t435 t436 t437) = some r := by first | (rw [hji33] at H; exact H) | (simp only [hji33] at H ⊢; exact H)
          (try rw [hji33] at A32)
          have hji33_ : (if x5_2 < t447 then t447 else x5_2) = ji33 := hji33
          have H' := Aside0.mk H
          clear H
          have hcz34_0 : wr.cell? ⟨gb440, 0, none⟩ = some (.int .i64 t434) := (blk_cell BK440.out 0).trans rfl
          have hcz34_1 : wr.cell? ⟨gb440, 1, none⟩ = some (.int .i64 t435) := (blk_cell BK440.out 1).trans rfl
          have hcz34_2 : wr.cell? ⟨gb440, 2, none⟩ = some (.string t436) := (blk_cell BK440.out 2).trans rfl
          have hcz34_3 : wr.cell? ⟨gb440, 3, none⟩ = some (.slice Ao10 t437.length co10) := (blk_cell BK440.out 3).trans rfl
          have hfz34_0 := blk_frozen BK440.out 0
          have hfz34_1 := blk_frozen BK440.out 1
          have hfz34_2 := blk_frozen BK440.out 2
          have hfz34_3 := blk_frozen BK440.out 3
          have p446 : 0 ≤ (x6_2 : Int) := of_decide_eq_true (by first | (with_reducible assumption) | assumption)
          have q446 : x6_2 < (t437.length : Int) := of_decide_eq_true (by first | (with_reducible assumption) | assumption)
          obtain ⟨ad446, A446_3, c446_3, e446, hx446_0, hx446_1, hx446_2, hx446_3, hl446_3, hi446_3⟩ := at_T25 (Kd.V_reads' HO_441003.out).2.2 x6_2 p446 q446
          cases e446
          obtain ⟨ce446, hce446, hMe446, hcc446⟩ := Kd.V_get HO_441003.out z25 x6_2 p446 (by first | exact q446 | exact of_decide_eq_true (by first | (with_reducible assumption) | assumption) | (have e_ := (Kd.V_reads' HO_441003.out).1; omega))
          obtain ⟨ua446_3, uc446_3, rfl, ul446_3, ge446_3⟩ := k25_openF hMe446
          have hv446_3 := hcc446 3 _ rfl
          rw [add_field _ _ 3 (by omega)] at hv446_3
          replace hv446_3 := Option.some.inj (hv446_3.symm.trans hx446_3)
          injection hv446_3 with hva_ hvn_ hvc_
          rw [hva_] at ge446_3
          rw [hvc_] at ul446_3
          have HL446_3 := Aside0.mk (show Kd.V k25 25 _ w.heap.size _ _ ((rd_T25 t437 x6_2).f3) from Kd.V_mk ul446_3 ge446_3)
          clear hva_ hvn_ hvc_ ge446_3 ul446_3
          clear hcc446 hce446
          have HR446_3 := Aside0.mk hi446_3
          have HC446_3 := Aside0.mk hl446_3
          clear hi446_3 hl446_3
          replace p446 := eq_true p446
          replace q446 := eq_true q446
          go_wp2_with (first | ((with_reducible refine gate_callee (f := 7) rfl ?_); refine gl (some 50) Try.func7 #[.agg #[.int .i64 ((rd_T25 t437 x6_2).f0), .int .i64 ((rd_T25 t437 x6_2).f1), .string ((rd_T25 t437 x6_2).f2), .slice A446_3 ((rd_T25 t437 x6_2).f3).length c446_3]] ?_; (with_reducible refine (impl_ThingsUsed.calls k2 ((rd_T25 t437 x6_2).f0) ((rd_T25 t437 x6_2).f1) ((rd_T25 t437 x6_2).f2) _ _ ((rd_T25 t437 x6_2).f3) t447 _ ?side1 ?side2 A32.out).mono ?_); (case side1 => repeat (first | exact (by repeat (first | (with_reducible exact HR446_3.out) | (with_reducible refine Kd.C_alloc ?_ _) | (with_reducible refine Kd.C_drewN ?_ _) | (with_reducible refine Kd.C_drew ?_) | exact HR446_3.out)) | (with_reducible refine Kd.C_alloc ?_ _) | (with_reducible refine Kd.C_drewN ?_ _) | (with_reducible refine Kd.C_drew ?_))); (case side2 => exact HC446_3.out); rintro e w35 ⟨rfl, hb⟩; refine ⟨_, rfl, ?_⟩; replace HO_441003 := Aside0.mk (Kd.V_below (by exact Kd.xV HO_441003.out) hb); replace HL446_3 := Aside0.mk (Kd.V_below (by exact Kd.xV HL446_3.out) hb); replace BK440 := bB BK440 hb; replace HR446_3 := Aside0.mk (Kd.C_below (by repeat (first | (with_reducible exact HR446_3.out) | (with_reducible refine Kd.C_alloc ?_ _) | (with_reducible refine Kd.C_drewN ?_ _) | (with_reducible refine Kd.C_drew ?_) | exact HR446_3.out)) hb); replace HB := bS HB hb; (try clear hb); (try clear hb2); (try clear hk); (try clear hi)))
          go_roundg k2
          case measure => have := HJ14.out; have := HK2.out; omega
          case rel => exact ⟨(ji33), (wrap64 (x6_2 + 1)), (by first | rfl | (simp; done) | (simp only [← hji33] <;> (first | rfl | simp)) | (simp [*]; done)), (by first | rfl | (simp; done) | (simp [*]; done)), H', ⟨by have := HJ14.out; have := HK2.out; omega⟩, ⟨by exact Kd.xV HO_441003.out⟩, ⟨by exact bk BK440.out⟩, ⟨by exact bw HB.out⟩⟩
         ·
          rw [if_neg c31] at H; exact absurd H (by simp)
        ·
         rw [if_neg c30] at H; have c30b0 : decide (x6_2 < (t437.length : Int)) = false := decide_eq_false c30; clear c30
         obtain rfl := Option.some.inj H
         have hcz36_0 : wr.cell? ⟨gb440, 0, none⟩ = some (.int .i64 t434) := (blk_cell BK440.out 0).trans rfl
         have hcz36_1 : wr.cell? ⟨gb440, 1, none⟩ = some (.int .i64 t435) := (blk_cell BK440.out 1).trans rfl
         have hcz36_2 : wr.cell? ⟨gb440, 2, none⟩ = some (.string t436) := (blk_cell BK440.out 2).trans rfl
         have hcz36_3 : wr.cell? ⟨gb440, 3, none⟩ = some (.slice Ao10 t437.length co10) := (blk_cell BK440.out 3).trans rfl
         have hfz36_0 := blk_frozen BK440.out 0
         have hfz36_1 := blk_frozen BK440.out 1
         have hfz36_2 := blk_frozen BK440.out 2
         have hfz36_3 := blk_frozen BK440.out 3
         go_wp2
         go_ret
         exact ⟨by first | rfl | (simp [errW_none, errW_some] <;> rfl) | (simp [*, errW_none, errW_some] <;> rfl), by exact bw HB.out⟩
  ·
   rw [if_neg c14] at H; obtain ⟨c14b0, c14b1⟩ := eqN c14
   (first | rw [c14b0] | (simp only [i64_w, i32_w]; rw [c14b0]) | rw [c14b2] | rw [c14b1] | skip)
   obtain rfl := Option.some.inj H
   go_wp2
   go_ret
   exact ⟨by first | rfl | (simp [errW_none, errW_some] <;> rfl) | (simp [*, errW_none, errW_some] <;> rfl), by exact bw HB.out⟩

/-- THE ONE PURE STATEMENT of laws_FnThingsUsed: yours. -/
def laws_FnThingsUsed.Pure : Prop := ∀ (l0 : List Int), l0.length ≤ maxLen → l0.length * 1 ≤ 140737488351232 → (∀ x ∈ l0, (Lit.int .u8 x).wf = true) → ∃ k, laws_FnThingsUsed.f k l0 = some true
theorem laws_FnThingsUsed.walk (P : laws_FnThingsUsed.Pure) (a0 : Option Addr) (len0 cap0 : Nat) (z0 : List Int) (w : World) (w0 : (a0 = none ∧ len0 = 0 ∧ cap0 = 0 ∧ z0 = []) ∨ ∃ x, a0 = some x ∧ len0 ≤ cap0 ∧ cap0 ≤ maxLen ∧ z0.length = cap0 ∧ (∀ i, i < z0.length → w.cell? (x.add i) = some (.int .u8 (z0.getD i 0))) ∧ ∀ n ∈ z0, (Lit.int .u8 n).wf = true) (y0 : len0 * 1 ≤ 140737488351232) :
  Calls Try.prog 3 #[.slice a0 len0 cap0] w fun e w' => e = .returned (.bool true) ∧ Below w.heap.size w w' := by
 obtain ⟨l0, rfl, hr0, hm0, hw0, hc0⟩ := ReadsInt.ofRowC w0
 obtain ⟨k, h⟩ := P l0 hm0 y0 hw0
 refine (laws_FnThingsUsed.calls k _ _ l0 true w (Kd.C_of_reads (d := (0 : Int)) (h1 := fun _ => rfl) hr0) hc0 h).mono ?_
 rintro e w' ⟨rfl, hd⟩
 exact ⟨rfl, hd⟩

end Go.Proofs.Ytjpeciodihnolaa.P
