-- Written by a program of this session (wip/tool).
import Derived.Test.YtbbbgochcfccgaaPx0
import Derived.Test.YtbbbgochcfccgaaPx1028
import Derived.Test.YtbbbgochcfccgaaPx1031
import Derived.Test.YtbbbgochcfccgaaPx1032
import Derived.Test.YtbbbgochcfccgaaPx1035
import Derived.Test.YtbbbgochcfccgaaPx1061
namespace Go.Proofs.Ytbbbgochcfccgaa.P
open Go.RowKit Go.Proofs.YtbbbgochcfccgaaW.PrintWords Go.Proofs.YtbbbgochcfccgaaW.PrintLast Go.Proofs.YtbbbgochcfccgaaW.PrintMore
attribute [local go_sem] max2_int min2_int max_two min_two max_three min_three max_four min_four   -- for this text's walks alone
set_option linter.unusedVariables false
set_option linter.unusedSimpArgs false

/-! ### laws_FnExactThingsUsed: function 3 -/
def laws_FnExactThingsUsed.f (k : Nat) (a0_0 : Int) (a0_1 : Int) (a0_2 : ByteArray) (l0_3 : List (S24)) : Option (Bool) := (laws_szExpr.f k a0_0 a0_1 a0_2 l0_3 1048576).bind fun t198 => (if t198 < 0 then (some true) else ((laws_toExpr.f k a0_0 a0_1 a0_2 l0_3).bind fun bt199 => ((spec_ThingsUsed.f k bt199.1 bt199.2.1 bt199.2.2.1 bt199.2.2.2).bind fun t205 => ((laws_toExpr.f k a0_0 a0_1 a0_2 l0_3).bind fun bt206 => ((impl_ThingsUsed.f k bt206.1 bt206.2.1 bt206.2.2.1 bt206.2.2.2).bind fun t213 => (if t213 = t205 then ((laws_toExpr.f k a0_0 a0_1 a0_2 l0_3).bind fun bt214 => ((laws_eqExpr.f k bt206.1 bt206.2.1 bt206.2.2.1 bt206.2.2.2 bt214.1 bt214.2.1 bt214.2.2.1 bt214.2.2.2).bind fun t220 => (if t220 = true then (some true) else (some false)))) else (some false)))))))
theorem laws_FnExactThingsUsed.mono : ∀ a0 a1 a2 a3 k, LeO (laws_FnExactThingsUsed.f k a0 a1 a2 a3) (laws_FnExactThingsUsed.f (k + 1) a0 a1 a2 a3) := by
 intro a0 a1 a2 a3 k
 unfold laws_FnExactThingsUsed.f
 repeat' first
   | (with_reducible exact impl_ThingsUsed.mono _ _ _ _ _)
   | (with_reducible exact laws_eqExpr.mono _ _ _ _ _ _ _ _ _)
   | (with_reducible exact laws_szExpr.mono _ _ _ _ _ _)
   | (with_reducible exact laws_toExpr.mono _ _ _ _ _)
   | (with_reducible exact spec_ThingsUsed.mono _ _ _ _ _)
   | (with_reducible exact LeO.refl _)
   | (with_reducible exact LeO.none _)
   | (with_reducible refine LeO.ite ?_ ?_)
   | (with_reducible refine LeO.bind ?_ (fun _ => ?_))
   | exact impl_ThingsUsed.mono _ _ _ _ _
   | exact laws_eqExpr.mono _ _ _ _ _ _ _ _ _
   | exact laws_szExpr.mono _ _ _ _ _ _
   | exact laws_toExpr.mono _ _ _ _ _
   | exact spec_ThingsUsed.mono _ _ _ _ _
   | exact LeO.none _
   | refine LeO.ite ?_ ?_
   | refine LeO.bind ?_ (fun _ => ?_)
set_option maxHeartbeats 8000000 in
set_option maxRecDepth 100000 in
theorem laws_FnExactThingsUsed.calls (k : Nat) (a0_0 : Int) (a0_1 : Int) (a0_2 : ByteArray) (A0_3 : Option Addr) (c0_3 : Nat) (l0_3 : List (S24)) (r : Bool) (w : World) (hr0_3 : Kd.C k24 w A0_3 l0_3.length l0_3) (hc0_3 : l0_3.length ≤ c0_3) (h : laws_FnExactThingsUsed.f k a0_0 a0_1 a0_2 l0_3 = some r) :
  Calls Try.prog 3 #[.agg #[.int .i64 a0_0, .int .i64 a0_1, .string a0_2, .slice A0_3 l0_3.length c0_3]] w fun e w' => e = .returned (.bool r) ∧ Below w.heap.size w w' := by
 have hu24 := Try.underlying24
 have hu29 := Try.underlying29
 have HR0_3 := Aside0.mk hr0_3
 have HC0_3 := Aside0.mk hc0_3
 clear hr0_3 hc0_3
 have HB := Aside0.mk (Below.refl w.heap.size w)
 have H : ((laws_szExpr.f k a0_0 a0_1 a0_2 l0_3 1048576).bind fun t198 => (if t198 < 0 then (some true) else ((laws_toExpr.f k a0_0 a0_1 a0_2 l0_3).bind fun bt199 => ((spec_ThingsUsed.f k bt199.1 bt199.2.1 bt199.2.2.1 bt199.2.2.2).bind fun t205 => ((laws_toExpr.f k a0_0 a0_1 a0_2 l0_3).bind fun bt206 => ((impl_ThingsUsed.f k bt206.1 bt206.2.1 bt206.2.2.1 bt206.2.2.2).bind fun t213 => (if t213 = t205 then ((laws_toExpr.f k a0_0 a0_1 a0_2 l0_3).bind fun bt214 => ((laws_eqExpr.f k bt206.1 bt206.2.1 bt206.2.2.1 bt206.2.2.2 bt214.1 bt214.2.1 bt214.2.2.1 bt214.2.2.2).bind fun t220 => (if t220 = true then (some true) else (some false)))) else (some false)))))))) = some r := h
 clear h
 replace H := Option.bind_eq_some_iff.mp H
 obtain ⟨t198, A20, H⟩ := H
 replace H : (if t198 < 0 then (some true) else ((laws_toExpr.f k a0_0 a0_1 a0_2 l0_3).bind fun bt199 => ((spec_ThingsUsed.f k bt199.1 bt199.2.1 bt199.2.2.1 bt199.2.2.2).bind fun t205 => ((laws_toExpr.f k a0_0 a0_1 a0_2 l0_3).bind fun bt206 => ((impl_ThingsUsed.f k bt206.1 bt206.2.1 bt206.2.2.1 bt206.2.2.2).bind fun t213 => (if t213 = t205 then ((laws_toExpr.f k a0_0 a0_1 a0_2 l0_3).bind fun bt214 => ((laws_eqExpr.f k bt206.1 bt206.2.1 bt206.2.2.1 bt206.2.2.2 bt214.1 bt214.2.1 bt214.2.2.1 bt214.2.2.2).bind fun t220 => (if t220 = true then (some true) else (some false)))) else (some false))))))) = some r := H
 have A2 := Aside0.mk A20
 clear A20
 have HC3 := Aside0.mk H
 clear H
 go_enter Try.func3, Try.ntmps3
 go_upto_if 11 with (first | ((with_reducible refine gate_dst (N := 1) rfl ?_); refine bx 1 #[.int .i64 a0_0, .int .i64 a0_1, .string a0_2, .slice A0_3 l0_3.length c0_3] 24 ?_; intro gb197 hg w4 hbox hb; have BK197 := Aside0.mk (hbox); have GW197 := gwB HB hg; have GE197 := gwB HB hg; replace HB := bS HB hb; clear hb hbox hg; obtain ⟨hcz5_0, hcz5_1, hcz5_2, hcz5_3⟩ := cs4 BK197.out; obtain ⟨hfz5_0, hfz5_1, hfz5_2, hfz5_3⟩ := fz4 BK197.out) | ((with_reducible refine gate_callee (f := 7) rfl ?_); refine gl (some 9) Try.func7 #[.agg #[.int .i64 a0_0, .int .i64 a0_1, .string a0_2, .slice A0_3 l0_3.length c0_3], .int .i64 1048576] ?_; (with_reducible refine (laws_szExpr.calls k a0_0 a0_1 a0_2 _ _ l0_3 1048576 t198 _ ?side1 ?side2 A2.out).mono ?_); (case side1 => repeat (first | exact (Kd.C_below HR0_3.out HB.out) | (with_reducible refine Kd.C_alloc ?_ _) | (with_reducible refine Kd.C_drewN ?_ _) | (with_reducible refine Kd.C_drew ?_))); (case side2 => exact HC0_3.out); rintro e w6 ⟨rfl, hb⟩; refine ⟨_, rfl, ?_⟩; replace BK197 := bB BK197 hb; replace HB := bS HB hb; (try clear hb); (try clear hb2); (try clear hk); (try clear hi)))
 (try simp only [Act.put, List.setIfInBounds_toArray, List.set_cons_zero, List.set_cons_succ])
 have H := HC3.out
 clear HC3
 by_cases c7 : t198 < 0
 ·
  rw [if_pos c7] at H; have c7b0 : decide (t198 < 0) = true := decide_eq_true c7; clear c7
  (first | rw [c7b0] | (simp only [i64_w, i32_w]; rw [c7b0]) | rw [c7b2] | rw [c7b1] | skip)
  obtain rfl := Option.some.inj H
  go_wp2
  go_ret
  exact ⟨by first | rfl | (simp [errW_none, errW_some] <;> rfl) | (simp [*, errW_none, errW_some] <;> rfl), by exact bw HB.out⟩
 ·
  rw [if_neg c7] at H; have c7b0 : decide (t198 < 0) = false := decide_eq_false c7; clear c7
  (first | rw [c7b0] | (simp only [i64_w, i32_w]; rw [c7b0]) | rw [c7b2] | rw [c7b1] | skip)
  replace H := Option.bind_eq_some_iff.mp H
  obtain ⟨⟨t199, t200, t201, t202⟩, A80, H⟩ := H
  replace H : ((spec_ThingsUsed.f k t199 t200 t201 t202).bind fun t205 => ((laws_toExpr.f k a0_0 a0_1 a0_2 l0_3).bind fun bt206 => ((impl_ThingsUsed.f k bt206.1 bt206.2.1 bt206.2.2.1 bt206.2.2.2).bind fun t213 => (if t213 = t205 then ((laws_toExpr.f k a0_0 a0_1 a0_2 l0_3).bind fun bt214 => ((laws_eqExpr.f k bt206.1 bt206.2.1 bt206.2.2.1 bt206.2.2.2 bt214.1 bt214.2.1 bt214.2.2.1 bt214.2.2.2).bind fun t220 => (if t220 = true then (some true) else (some false)))) else (some false))))) = some r := H
  have A8 := Aside0.mk A80
  clear A80
  replace H := Option.bind_eq_some_iff.mp H
  obtain ⟨t205, A90, H⟩ := H
  replace H : ((laws_toExpr.f k a0_0 a0_1 a0_2 l0_3).bind fun bt206 => ((impl_ThingsUsed.f k bt206.1 bt206.2.1 bt206.2.2.1 bt206.2.2.2).bind fun t213 => (if t213 = t205 then ((laws_toExpr.f k a0_0 a0_1 a0_2 l0_3).bind fun bt214 => ((laws_eqExpr.f k bt206.1 bt206.2.1 bt206.2.2.1 bt206.2.2.2 bt214.1 bt214.2.1 bt214.2.2.1 bt214.2.2.2).bind fun t220 => (if t220 = true then (some true) else (some false)))) else (some false)))) = some r := H
  have A9 := Aside0.mk A90
  clear A90
  replace H := Option.bind_eq_some_iff.mp H
  obtain ⟨⟨t206, t207, t208, t209⟩, A100, H⟩ := H
  replace H : ((impl_ThingsUsed.f k t206 t207 t208 t209).bind fun t213 => (if t213 = t205 then ((laws_toExpr.f k a0_0 a0_1 a0_2 l0_3).bind fun bt214 => ((laws_eqExpr.f k t206 t207 t208 t209 bt214.1 bt214.2.1 bt214.2.2.1 bt214.2.2.2).bind fun t220 => (if t220 = true then (some true) else (some false)))) else (some false))) = some r := H
  have A10 := Aside0.mk A100
  clear A100
  replace H := Option.bind_eq_some_iff.mp H
  obtain ⟨t213, A110, H⟩ := H
  replace H : (if t213 = t205 then ((laws_toExpr.f k a0_0 a0_1 a0_2 l0_3).bind fun bt214 => ((laws_eqExpr.f k t206 t207 t208 t209 bt214.1 bt214.2.1 bt214.2.2.1 bt214.2.2.2).bind fun t220 => (if t220 = true then (some true) else (some false)))) else (some false)) = some r := H
  have A11 := Aside0.mk A110
  clear A110
  have HC12 := Aside0.mk H
  clear H
  have hcz13_0 : w6.cell? ⟨gb197, 0, none⟩ = some (.int .i64 a0_0) := (blk_cell BK197.out 0).trans rfl
  have hcz13_1 : w6.cell? ⟨gb197, 1, none⟩ = some (.int .i64 a0_1) := (blk_cell BK197.out 1).trans rfl
  have hcz13_2 : w6.cell? ⟨gb197, 2, none⟩ = some (.string a0_2) := (blk_cell BK197.out 2).trans rfl
  have hcz13_3 : w6.cell? ⟨gb197, 3, none⟩ = some (.slice A0_3 l0_3.length c0_3) := (blk_cell BK197.out 3).trans rfl
  have hfz13_0 := blk_frozen BK197.out 0
  have hfz13_1 := blk_frozen BK197.out 1
  have hfz13_2 := blk_frozen BK197.out 2
  have hfz13_3 := blk_frozen BK197.out 3
  go_upto_if 21 with (first | ((with_reducible refine gate_callee (f := 9) rfl ?_); refine gl (some 13) Try.func9 #[.agg #[.int .i64 a0_0, .int .i64 a0_1, .string a0_2, .slice A0_3 l0_3.length c0_3]] ?_; (with_reducible refine (laws_toExpr.calls k a0_0 a0_1 a0_2 _ _ l0_3 t199 t200 t201 t202 _ ?side1 ?side2 A8.out).mono ?_); (case side1 => repeat (first | exact (Kd.C_below HR0_3.out HB.out) | (with_reducible refine Kd.C_alloc ?_ _) | (with_reducible refine Kd.C_drewN ?_ _) | (with_reducible refine Kd.C_drew ?_))); (case side2 => exact HC0_3.out); rintro e w14 ⟨v203, rfl, ho0, hb⟩; refine ⟨_, rfl, ?_⟩; have HO204 := Aside0.mk (Kd.R_lower ho0 (below_size (by exact bw HB.out))); replace BK197 := bB BK197 hb; replace HB := bS HB hb; (try clear hb); (try clear hb2); (try clear hk); (try clear hi); (try clear ho0); obtain ⟨Ao15, co15, eo15⟩ := Kd.R_slice HO204.out; subst eo15) | ((with_reducible refine gate_callee (f := 8) rfl ?_); refine gl (some 14) Try.func8 #[.agg #[.int .i64 t199, .int .i64 t200, .string t201, .slice Ao15 t202.length co15]] ?_; (with_reducible refine (spec_ThingsUsed.calls k t199 t200 t201 _ _ t202 t205 _ ?side1 ?side2 A9.out).mono ?_); (case side1 => repeat (first | exact (Kd.R_reads' HO204.out).2.2 | (with_reducible refine Kd.C_alloc ?_ _) | (with_reducible refine Kd.C_drewN ?_ _) | (with_reducible refine Kd.C_drew ?_))); (case side2 => exact (Kd.R_reads' HO204.out).2.1); rintro e w16 ⟨rfl, hb⟩; refine ⟨_, rfl, ?_⟩; replace HO204 := Aside0.mk (Kd.R_below (by exact Kd.xR HO204.out) hb); replace BK197 := bB BK197 hb; replace HB := bS HB hb; (try clear hb); (try clear hb2); (try clear hk); (try clear hi); obtain ⟨hcz17_0, hcz17_1, hcz17_2, hcz17_3⟩ := cs4 BK197.out; obtain ⟨hfz17_0, hfz17_1, hfz17_2, hfz17_3⟩ := fz4 BK197.out) | ((with_reducible refine gate_callee (f := 9) rfl ?_); refine gl (some 16) Try.func9 #[.agg #[.int .i64 a0_0, .int .i64 a0_1, .string a0_2, .slice A0_3 l0_3.length c0_3]] ?_; (with_reducible refine (laws_toExpr.calls k a0_0 a0_1 a0_2 _ _ l0_3 t206 t207 t208 t209 _ ?side1 ?side2 A10.out).mono ?_); (case side1 => repeat (first | exact (Kd.C_below HR0_3.out HB.out) | (with_reducible refine Kd.C_alloc ?_ _) | (with_reducible refine Kd.C_drewN ?_ _) | (with_reducible refine Kd.C_drew ?_))); (case side2 => exact HC0_3.out); rintro e w18 ⟨v210, rfl, ho0, hb⟩; refine ⟨_, rfl, ?_⟩; have HO211 := Aside0.mk (Kd.R_lower (Kd.R_new' ho0 (Kd.R_lt (by exact Kd.xR HO204.out))) (below_size (by exact bw HB.out))); replace HO204 := Aside0.mk (Kd.R_elder' (by exact Kd.xR HO204.out) (Kd.R_base ho0) hb); replace BK197 := bB BK197 hb; replace HB := bS HB hb; (try clear hb); (try clear hb2); (try clear hk); (try clear hi); (try clear ho0)) | ((with_reducible refine gate_dst (N := 5) rfl ?_); refine bx 5 #[.int .i64 0, .int .i64 0, .string (⟨#[]⟩ : ByteArray), .slice none 0 0] 29 ?_; intro gb212 hg w19 hbox hb; replace HO204 := Aside0.mk (Kd.R_below (Kd.R_elderB (by exact Kd.xR HO204.out) gb212 (Nat.le_of_eq hg.symm)) hb); replace HO211 := Aside0.mk (Kd.R_below (Kd.R_elderB (by exact Kd.xR HO211.out) gb212 (Nat.le_of_eq hg.symm)) hb); have BK212 := Aside0.mk (hbox); have GW212 := gwB HB hg; have GE212 := gwB HB hg; replace HB := bS HB hb; have NB197_212 := nbL BK197 hg; have NB212_197 := nbR BK197 hg; replace BK197 := bB BK197 hb; clear hb hbox hg; have hnb20 := NB212_197.out; have hnc20 := NB197_212.out; obtain ⟨hcz21_0, hcz21_1, hcz21_2, hcz21_3⟩ := cs4 BK212.out; obtain ⟨hfz21_0, hfz21_1, hfz21_2, hfz21_3⟩ := fz4 BK212.out; obtain ⟨Ao22, co22, eo22⟩ := Kd.R_slice HO211.out; subst eo22) | ((with_reducible refine gate_callee (f := 10) rfl ?_); refine gl (some 18) Try.func10 #[.agg #[.int .i64 t206, .int .i64 t207, .string t208, .slice Ao22 t209.length co22]] ?_; (with_reducible refine (impl_ThingsUsed.calls k t206 t207 t208 _ _ t209 t213 _ ?side1 ?side2 A11.out).mono ?_); (case side1 => refine (Kd.R_reads' (e := 29) (base := w.heap.size) (ok := fun k_ => ((True ∧ some k_ ≠ (.slice Ao15 t202.length co15 : Value).ownBlock) ∧ k_ ≠ gb212)) (n := t209.length) (c := co22) ?_).2.2; exact (by (with_reducible repeat (first | apply Kd.R_alloc | apply Kd.R_drewN | apply Kd.R_drew)); exact (Kd.R_mono (Kd.R_far (p := ⟨gb212, 3, none⟩) (Kd.R_far (p := ⟨gb212, 2, none⟩) (Kd.R_far (p := ⟨gb212, 1, none⟩) (Kd.R_far (p := ⟨gb212, 0, none⟩) (Kd.R_mono HO211.out (fun k_ hk => (⟨hk, okp hk⟩ : _ ∧ k_ ≠ gb212))) (fun _ hk => hk.2) (.int .i64 t206)) (fun _ hk => hk.2) (.int .i64 t207)) (fun _ hk => hk.2) (.string t208)) (fun _ hk => hk.2) (.slice Ao22 t209.length co22)) (fun _ h_ => h_.1)))); (case side2 => exact (Kd.R_reads' HO211.out).2.1); rintro e w23 ⟨rfl, hb⟩; refine ⟨_, rfl, ?_⟩; replace HO204 := Aside0.mk (Kd.R_below (by (with_reducible repeat (first | apply Kd.R_alloc | apply Kd.R_drewN | apply Kd.R_drew)); exact (Kd.R_mono (Kd.R_far (p := ⟨gb212, 3, none⟩) (Kd.R_far (p := ⟨gb212, 2, none⟩) (Kd.R_far (p := ⟨gb212, 1, none⟩) (Kd.R_far (p := ⟨gb212, 0, none⟩) (Kd.R_mono HO204.out (fun k_ hk => (⟨hk, okp hk⟩ : _ ∧ k_ ≠ gb212))) (fun _ hk => hk.2) (.int .i64 t206)) (fun _ hk => hk.2) (.int .i64 t207)) (fun _ hk => hk.2) (.string t208)) (fun _ hk => hk.2) (.slice Ao22 t209.length co22)) (fun _ h_ => h_.1))) hb); replace HO211 := Aside0.mk (Kd.R_below (by (with_reducible repeat (first | apply Kd.R_alloc | apply Kd.R_drewN | apply Kd.R_drew)); exact (Kd.R_mono (Kd.R_far (p := ⟨gb212, 3, none⟩) (Kd.R_far (p := ⟨gb212, 2, none⟩) (Kd.R_far (p := ⟨gb212, 1, none⟩) (Kd.R_far (p := ⟨gb212, 0, none⟩) (Kd.R_mono HO211.out (fun k_ hk => (⟨hk, okp hk⟩ : _ ∧ k_ ≠ gb212))) (fun _ hk => hk.2) (.int .i64 t206)) (fun _ hk => hk.2) (.int .i64 t207)) (fun _ hk => hk.2) (.string t208)) (fun _ hk => hk.2) (.slice Ao22 t209.length co22)) (fun _ h_ => h_.1))) hb); replace BK197 := Aside0.mk (blk_below (g := gb197) (o := .cells #[.int .i64 a0_0, .int .i64 a0_1, .string a0_2, .slice A0_3 l0_3.length c0_3] 24 (0, 0)) (bo BK197) hb); replace BK212 := Aside0.mk (blk_below (g := gb212) (o := .cells #[.int .i64 t206, .int .i64 t207, .string t208, .slice Ao22 t209.length co22] 29 (0, 0)) (bp BK212) hb); replace HB := bS HB hb; (try clear hb); (try clear hb2); (try clear hk); (try clear hi)))
  (try simp only [Act.put, List.setIfInBounds_toArray, List.set_cons_zero, List.set_cons_succ])
  have H := HC12.out
  clear HC12
  by_cases c24 : t213 = t205
  ·
   rw [if_pos c24] at H; obtain ⟨c24b0, c24b1⟩ := eqY c24; clear c24
   (first | rw [c24b0] | (simp only [i64_w, i32_w]; rw [c24b0]) | rw [c24b2] | rw [c24b1] | skip)
   replace H := Option.bind_eq_some_iff.mp H
   obtain ⟨⟨t214, t215, t216, t217⟩, A250, H⟩ := H
   replace H : ((laws_eqExpr.f k t206 t207 t208 t209 t214 t215 t216 t217).bind fun t220 => (if t220 = true then (some true) else (some false))) = some r := H
   have A25 := Aside0.mk A250
   clear A250
   replace H := Option.bind_eq_some_iff.mp H
   obtain ⟨t220, A260, H⟩ := H
   replace H : (if t220 = true then (some true) else (some false)) = some r := H
   have A26 := Aside0.mk A260
   clear A260
   have HC27 := Aside0.mk H
   clear H
   try go_wp2
   replace HO204 := Aside0.mk (Kd.R_drew HO204.out)
   replace HO211 := Aside0.mk (Kd.R_drew HO211.out)
   replace BK197 := Aside0.mk (blk_drew BK197.out)
   replace BK212 := Aside0.mk (blk_drew BK212.out)
   replace HB := Aside0.mk (below_drew1 HB.out)
   refine start_ (n := 5) (S := fun w' => w'.cell? ⟨gb212, 0, none⟩ = some (.int .i64 t206) ∧ w'.cell? ⟨gb212, 1, none⟩ = some (.int .i64 t207) ∧ w'.cell? ⟨gb212, 2, none⟩ = some (.string t208) ∧ w'.cell? ⟨gb212, 3, none⟩ = some (.slice Ao22 t209.length co22) ∧ w'.cell? ⟨gb197, 0, none⟩ = some (.int .i64 a0_0) ∧ w'.cell? ⟨gb197, 1, none⟩ = some (.int .i64 a0_1) ∧ w'.cell? ⟨gb197, 2, none⟩ = some (.string a0_2) ∧ w'.cell? ⟨gb197, 3, none⟩ = some (.slice A0_3 l0_3.length c0_3)) (ds := []) (mB 5 0) (by kernel_rfl) rfl rfl ⟨(blk_cell BK212.out 0).trans rfl, (blk_cell BK212.out 1).trans rfl, (blk_cell BK212.out 2).trans rfl, (blk_cell BK212.out 3).trans rfl, (blk_cell BK197.out 0).trans rfl, (blk_cell BK197.out 1).trans rfl, (blk_cell BK197.out 2).trans rfl, (blk_cell BK197.out 3).trans rfl⟩ (fun hHeld => ?_)
   generalize w23.drew = w28 at HO204 HO211 BK197 BK212 HB hHeld ⊢
   refine take_ (i := 0) (N := some 22) (v := ?_) (a' := ?_) (mB 5 1) rfl rfl (by kernel_rfl) (fun _ _ _ h => h) (Or.inl ⟨by rfl, ?_⟩) hHeld ?_ ?_
   rotate_left
   ·
    rintro w' ⟨s0, s1, s2, s3, s4, s5, s6, s7⟩
    go_simp
    with_reducible rfl
   rotate_left
   ·
    simp only [Act.put, List.setIfInBounds_toArray, List.set_cons_zero, List.set_cons_succ, i64_w, i32_w]
    rfl
   refine take_ (i := 1) (N := some 23) (v := ?_) (a' := ?_) (mB 5 3) rfl rfl (by kernel_rfl) (fun _ _ _ h => h) (Or.inl ⟨by rfl, ?_⟩) hHeld ?_ ?_
   rotate_left
   ·
    rintro w' ⟨s0, s1, s2, s3, s4, s5, s6, s7⟩
    go_simp
    with_reducible rfl
   rotate_left
   ·
    simp only [Act.put, List.setIfInBounds_toArray, List.set_cons_zero, List.set_cons_succ, i64_w, i32_w]
    rfl
   refine one_ (i := 2) (N := some 24) (mB 5 7) rfl rfl (by kernel_rfl) (by decide) (fun K hK => ?_)
   refine gs Try.func9 #[.agg #[.int .i64 a0_0, .int .i64 a0_1, .string a0_2, .slice A0_3 l0_3.length c0_3]] ?_
   with_reducible refine (laws_toExpr.calls k a0_0 a0_1 a0_2 _ _ l0_3 t214 t215 t216 t217 _ ?side1 ?side2 A25.out).mono ?_
   (case side1 => repeat (first | exact (Kd.C_below HR0_3.out HB.out) | (with_reducible refine Kd.C_alloc ?_ _) | (with_reducible refine Kd.C_drewN ?_ _) | (with_reducible refine Kd.C_drew ?_)))
   (case side2 => exact HC0_3.out)
   rintro e w29 ⟨v218, rfl, ho0, hb⟩
   refine ⟨_, rfl, ?_⟩
   have HO219 := Aside0.mk (Kd.R_lower (Kd.R_newB (Kd.R_new' (Kd.R_new' ho0 (Kd.R_lt (by exact Kd.xR HO204.out))) (Kd.R_lt (by exact Kd.xR HO211.out))) (g := gb212) (o := .cells #[.int .i64 t206, .int .i64 t207, .string t208, .slice Ao22 t209.length co22] 29 (0, 0)) (by exact bk BK212.out)) (below_size (by exact bw HB.out)))
   replace HO204 := Aside0.mk (Kd.R_elder' (by exact Kd.xR HO204.out) (Kd.R_base ho0) hb)
   replace HO211 := Aside0.mk (Kd.R_elder' (by exact Kd.xR HO211.out) (Kd.R_base ho0) hb)
   replace BK197 := bB BK197 hb
   replace BK212 := bB BK212 hb
   replace HB := bS HB hb
   (try clear hb)
   (try clear hb2)
   (try clear hk)
   (try clear hi)
   (try clear ho0)
   obtain ⟨Ao30, co30, eo30⟩ := Kd.R_slice HO219.out
   (first | subst eo30 | (injection eo30 with f1_ f2_ f3_; have f4_ := f1_.symm; have f5_ := f3_.symm; clear f1_ f2_ f3_; subst f4_; subst f5_))
   refine hK.out _ _ ⟨(blk_cell BK212.out 0).trans rfl, (blk_cell BK212.out 1).trans rfl, (blk_cell BK212.out 2).trans rfl, (blk_cell BK212.out 3).trans rfl, (blk_cell BK197.out 0).trans rfl, (blk_cell BK197.out 1).trans rfl, (blk_cell BK197.out 2).trans rfl, (blk_cell BK197.out 3).trans rfl⟩ (fun hHeld => ?_)
   clear hK K
   refine nm (some 24) ?_
   refine one_ (i := 3) (N := some 25) (mB 5 15) rfl rfl (by kernel_rfl) (by decide) (fun K hK => ?_)
   refine gs Try.func11 #[.agg #[.int .i64 t206, .int .i64 t207, .string t208, .slice Ao22 t209.length co22], .agg #[.int .i64 t214, .int .i64 t215, .string t216, .slice Ao30 t217.length co30]] ?_
   with_reducible refine (laws_eqExpr.calls k t206 t207 t208 _ _ t209 t214 t215 t216 _ _ t217 t220 _ ?side1 ?side2 ?side3 ?side4 A26.out).mono ?_
   (case side1 => repeat (first | exact (Kd.R_reads' HO211.out).2.2 | (with_reducible refine Kd.C_alloc ?_ _) | (with_reducible refine Kd.C_drewN ?_ _) | (with_reducible refine Kd.C_drew ?_)))
   (case side2 => exact (Kd.R_reads' HO211.out).2.1)
   (case side3 => repeat (first | exact (Kd.R_reads' HO219.out).2.2 | (with_reducible refine Kd.C_alloc ?_ _) | (with_reducible refine Kd.C_drewN ?_ _) | (with_reducible refine Kd.C_drew ?_)))
   (case side4 => exact (Kd.R_reads' HO219.out).2.1)
   rintro e w31 ⟨rfl, hb⟩
   refine ⟨_, rfl, ?_⟩
   replace HO204 := Aside0.mk (Kd.R_below (by exact Kd.xR HO204.out) hb)
   replace HO211 := Aside0.mk (Kd.R_below (by exact Kd.xR HO211.out) hb)
   replace HO219 := Aside0.mk (Kd.R_below (by exact Kd.xR HO219.out) hb)
   replace BK197 := bB BK197 hb
   replace BK212 := bB BK212 hb
   replace HB := bS HB hb
   (try clear hb)
   (try clear hb2)
   (try clear hk)
   (try clear hi)
   refine hK.out _ _ ⟨(blk_cell BK212.out 0).trans rfl, (blk_cell BK212.out 1).trans rfl, (blk_cell BK212.out 2).trans rfl, (blk_cell BK212.out 3).trans rfl, (blk_cell BK197.out 0).trans rfl, (blk_cell BK197.out 1).trans rfl, (blk_cell BK197.out 2).trans rfl, (blk_cell BK197.out 3).trans rfl⟩ (fun hHeld => ?_)
   clear hK K
   refine nm (some 25) ?_
   refine pure_ (i := 4) (N := some 26) (v := ?_) (a' := ?_) (mB 5 31) rfl rfl (by kernel_rfl) (fun _ _ _ h => h) (Or.inl ⟨by rfl, ?_⟩) ?_ ?_
   rotate_left
   ·
    intro w'
    go_simp
    with_reducible rfl
   rotate_left
   ·
    simp only [Act.put, List.setIfInBounds_toArray, List.set_cons_zero, List.set_cons_succ, i64_w, i32_w]
    rfl
   refine done_ (by kernel_rfl) ?_
   go_upto_if 26 with (fail)
   have H := HC27.out
   clear HC27
   by_cases c32 : t220 = true
   ·
    subst c32
    have H1 : (some true) = some r := by rw [if_pos rfl] at H; exact H
    clear H
    have H := H1
    clear H1
    obtain rfl := Option.some.inj H
    go_wp2
    go_ret
    exact ⟨by first | rfl | (simp [errW_none, errW_some] <;> rfl) | (simp [*, errW_none, errW_some] <;> rfl), by exact bw HB.out⟩
   ·
    replace c32 := Bool.eq_false_iff.mpr c32
    subst c32
    have H1 : (some false) = some r := by rw [if_neg (show ¬ (false = true) by decide)] at H; exact H
    clear H
    have H := H1
    clear H1
    obtain rfl := Option.some.inj H
    go_wp2
    go_ret
    exact ⟨by first | rfl | (simp [errW_none, errW_some] <;> rfl) | (simp [*, errW_none, errW_some] <;> rfl), by exact bw HB.out⟩
  ·
   rw [if_neg c24] at H; obtain ⟨c24b0, c24b1⟩ := eqN c24
   (first | rw [c24b0] | (simp only [i64_w, i32_w]; rw [c24b0]) | rw [c24b2] | rw [c24b1] | skip)
   obtain rfl := Option.some.inj H
   go_wp2
   go_ret
   exact ⟨by first | rfl | (simp [errW_none, errW_some] <;> rfl) | (simp [*, errW_none, errW_some] <;> rfl), by exact bw HB.out⟩

/-- THE ONE PURE STATEMENT of laws_FnExactThingsUsed: yours. -/
def laws_FnExactThingsUsed.Pure : Prop := ∀ (a0_0 : Int) (a0_1 : Int) (a0_2 : ByteArray) (l0_3 : List (S24)), Fine24 (⟨a0_0, a0_1, a0_2, l0_3⟩ : S24) → ∃ k, laws_FnExactThingsUsed.f k a0_0 a0_1 a0_2 l0_3 = some true
theorem laws_FnExactThingsUsed.walk (P : laws_FnExactThingsUsed.Pure) (a0_0 : Int) (a0_1 : Int) (a0_2 : ByteArray) (A0_3 : Option Addr) (c0_3 : Nat) (l0_3 : List (S24)) (w : World) (hr0_3 : Kd.C k24 w A0_3 l0_3.length l0_3) (hc0_3 : l0_3.length ≤ c0_3) (w0 : Fine24 (⟨a0_0, a0_1, a0_2, l0_3⟩ : S24)) :
  Calls Try.prog 3 #[.agg #[.int .i64 a0_0, .int .i64 a0_1, .string a0_2, .slice A0_3 l0_3.length c0_3]] w fun e w' => e = .returned (.bool true) ∧ Below w.heap.size w w' := by
 obtain ⟨k, h⟩ := P a0_0 a0_1 a0_2 l0_3 w0
 refine (laws_FnExactThingsUsed.calls k a0_0 a0_1 a0_2 _ _ l0_3 true w hr0_3 hc0_3 h).mono ?_
 rintro e w' ⟨rfl, hd⟩
 exact ⟨rfl, hd⟩

end Go.Proofs.Ytbbbgochcfccgaa.P
