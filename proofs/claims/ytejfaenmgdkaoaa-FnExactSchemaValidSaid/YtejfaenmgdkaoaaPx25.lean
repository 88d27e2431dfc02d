-- Written by a program of this session (wip/tool).
import Derived.Test.YtejfaenmgdkaoaaPx0
import Derived.Test.YtejfaenmgdkaoaaPx9
import Derived.Test.YtejfaenmgdkaoaaPx13
import Derived.Test.YtejfaenmgdkaoaaPx18
import Derived.Test.YtejfaenmgdkaoaaPx21
import Derived.Test.YtejfaenmgdkaoaaPx24
namespace Go.Proofs.Ytejfaenmgdkaoaa.P
open Go.RowKit Go.Proofs.YtejfaenmgdkaoaaW.PrintWords Go.Proofs.YtejfaenmgdkaoaaW.PrintLast Go.Proofs.YtejfaenmgdkaoaaW.PrintMore
attribute [local go_sem] max2_int min2_int max_two min_two max_three min_three max_four min_four   -- for this text's walks alone
set_option linter.unusedVariables false
set_option linter.unusedSimpArgs false

/-! ### laws_FnExactSchemaValid: function 4 -/
def laws_FnExactSchemaValid.f (k : Nat) (l0_0 : List (S107)) (l0_1 : List (S107)) : Option (Bool) := (laws_szSchema.f k l0_0 l0_1 1048576).bind fun t245 => (if t245 < 0 then (some true) else ((laws_toSchema.f k l0_0 l0_1).bind fun bt246 => ((spec_SchemaValid.f k bt246.1 bt246.2).bind fun t252 => ((laws_toSchema.f k l0_0 l0_1).bind fun bt253 => ((impl_SchemaValid.f k bt253.1 bt253.2).bind fun t260 => (if (t260 != t252) = true then (some false) else ((laws_toSchema.f k l0_0 l0_1).bind fun bt261 => ((laws_eqSchema.f k bt253.1 bt253.2 bt261.1 bt261.2).bind fun t267 => (if t267 = true then (some true) else (some false))))))))))
theorem laws_FnExactSchemaValid.mono : ∀ a0 a1 k, LeO (laws_FnExactSchemaValid.f k a0 a1) (laws_FnExactSchemaValid.f (k + 1) a0 a1) := by
 intro a0 a1 k
 unfold laws_FnExactSchemaValid.f
 repeat' first
   | (with_reducible exact impl_SchemaValid.mono _ _ _)
   | (with_reducible exact laws_eqSchema.mono _ _ _ _ _)
   | (with_reducible exact laws_szSchema.mono _ _ _ _)
   | (with_reducible exact laws_toSchema.mono _ _ _)
   | (with_reducible exact spec_SchemaValid.mono _ _ _)
   | (with_reducible exact LeO.refl _)
   | (with_reducible exact LeO.none _)
   | (with_reducible refine LeO.ite ?_ ?_)
   | (with_reducible refine LeO.bind ?_ (fun _ => ?_))
   | exact impl_SchemaValid.mono _ _ _
   | exact laws_eqSchema.mono _ _ _ _ _
   | exact laws_szSchema.mono _ _ _ _
   | exact laws_toSchema.mono _ _ _
   | exact spec_SchemaValid.mono _ _ _
   | exact LeO.none _
   | refine LeO.ite ?_ ?_
   | refine LeO.bind ?_ (fun _ => ?_)
set_option maxHeartbeats 8000000 in
set_option maxRecDepth 100000 in
theorem laws_FnExactSchemaValid.calls (k : Nat) (A0_0 : Option Addr) (c0_0 : Nat) (l0_0 : List (S107)) (A0_1 : Option Addr) (c0_1 : Nat) (l0_1 : List (S107)) (r : Bool) (w : World) (hr0_0 : Kd.C k107 w A0_0 l0_0.length l0_0) (hc0_0 : l0_0.length ≤ c0_0) (hr0_1 : Kd.C k107 w A0_1 l0_1.length l0_1) (hc0_1 : l0_1.length ≤ c0_1) (h : laws_FnExactSchemaValid.f k l0_0 l0_1 = some r) :
  Calls Try.prog 4 #[.agg #[.slice A0_0 l0_0.length c0_0, .slice A0_1 l0_1.length c0_1]] w fun e w' => e = .returned (.bool r) ∧ Below w.heap.size w w' := by
 have hu32 := Try.underlying32
 have hu25 := Try.underlying25
 have HR0_0 := Aside0.mk hr0_0
 have HC0_0 := Aside0.mk hc0_0
 clear hr0_0 hc0_0
 have HR0_1 := Aside0.mk hr0_1
 have HC0_1 := Aside0.mk hc0_1
 clear hr0_1 hc0_1
 have HB := Aside0.mk (Below.refl w.heap.size w)
 have H : ((laws_szSchema.f k l0_0 l0_1 1048576).bind fun t245 => (if t245 < 0 then (some true) else ((laws_toSchema.f k l0_0 l0_1).bind fun bt246 => ((spec_SchemaValid.f k bt246.1 bt246.2).bind fun t252 => ((laws_toSchema.f k l0_0 l0_1).bind fun bt253 => ((impl_SchemaValid.f k bt253.1 bt253.2).bind fun t260 => (if (t260 != t252) = true then (some false) else ((laws_toSchema.f k l0_0 l0_1).bind fun bt261 => ((laws_eqSchema.f k bt253.1 bt253.2 bt261.1 bt261.2).bind fun t267 => (if t267 = true then (some true) else (some false))))))))))) = some r := h
 clear h
 replace H := Option.bind_eq_some_iff.mp H
 obtain ⟨t245, A20, H⟩ := H
 replace H : (if t245 < 0 then (some true) else ((laws_toSchema.f k l0_0 l0_1).bind fun bt246 => ((spec_SchemaValid.f k bt246.1 bt246.2).bind fun t252 => ((laws_toSchema.f k l0_0 l0_1).bind fun bt253 => ((impl_SchemaValid.f k bt253.1 bt253.2).bind fun t260 => (if (t260 != t252) = true then (some false) else ((laws_toSchema.f k l0_0 l0_1).bind fun bt261 => ((laws_eqSchema.f k bt253.1 bt253.2 bt261.1 bt261.2).bind fun t267 => (if t267 = true then (some true) else (some false)))))))))) = some r := H
 have A2 := Aside0.mk A20
 clear A20
 have HC3 := Aside0.mk H
 clear H
 go_enter Try.func4, Try.ntmps4
 go_upto_if 11 with (first | ((with_reducible refine gate_dst (N := 1) rfl ?_); refine box_event ?hg (N := 1) ?hd (cs := #[.slice A0_0 l0_0.length c0_0, .slice A0_1 l0_1.length c0_1]) (t := 32) ?hr ?_; (case hd => rfl); (case hg => rfl); (case hr => first | (go_simp; done) | (go_simp; rfl)); intro gb244 hg w4 hbox hb; have n0_ := Aside0.mk (below_step (by exact bw HB.out) hb); have n1_ := Aside0.mk (hbox); have n2_ := Aside0.mk ((by rw [hg]; exact (below_size (by exact bw HB.out)) : w.heap.size ≤ gb244)); have n3_ := Aside0.mk ((by rw [hg]; exact (below_size (by exact bw HB.out)) : w.heap.size ≤ gb244)); clear HB; have HB := n0_; have BK244 := n1_; have GW244 := n2_; have GE244 := n3_; clear n0_ n1_ n2_ n3_; clear hb hbox hg; have hcz5_0 : w4.cell? ⟨gb244, 0, none⟩ = some (.slice A0_0 l0_0.length c0_0) := (blk_cell BK244.out 0).trans rfl; have hcz5_1 : w4.cell? ⟨gb244, 1, none⟩ = some (.slice A0_1 l0_1.length c0_1) := (blk_cell BK244.out 1).trans rfl; have hfz5_0 := blk_frozen BK244.out 0; have hfz5_1 := blk_frozen BK244.out 1) | ((with_reducible refine gate_callee (f := 15) rfl ?_); refine gl (some 9) Try.func15 #[.agg #[.slice A0_0 l0_0.length c0_0, .slice A0_1 l0_1.length c0_1], .int .i64 1048576] ?_; (with_reducible refine (laws_szSchema.calls k _ _ l0_0 _ _ l0_1 1048576 t245 _ ?side1 ?side2 ?side3 ?side4 A2.out).mono ?_); (case side1 => repeat (first | exact (Kd.C_below HR0_0.out HB.out) | (with_reducible refine Kd.C_alloc ?_ _) | (with_reducible refine Kd.C_drewN ?_ _) | (with_reducible refine Kd.C_drew ?_))); (case side2 => exact HC0_0.out); (case side3 => repeat (first | exact (Kd.C_below HR0_1.out HB.out) | (with_reducible refine Kd.C_alloc ?_ _) | (with_reducible refine Kd.C_drewN ?_ _) | (with_reducible refine Kd.C_drew ?_))); (case side4 => exact HC0_1.out); rintro e w6 ⟨rfl, hb⟩; refine ⟨_, rfl, ?_⟩; have n0_ := Aside0.mk (blk_below (g := gb244) (o := .cells #[.slice A0_0 l0_0.length c0_0, .slice A0_1 l0_1.length c0_1] 32 (0, 0)) (by exact bk BK244.out) hb); have n1_ := Aside0.mk (below_step (by exact bw HB.out) hb); clear BK244; clear HB; have BK244 := n0_; have HB := n1_; clear n0_ n1_; (try clear hb); (try clear hb2); (try clear hk); (try clear hi)))
 (try simp only [Act.put, List.setIfInBounds_toArray, List.set_cons_zero, List.set_cons_succ])
 have H := HC3.out
 clear HC3
 by_cases c7 : t245 < 0
 ·
  rw [if_pos c7] at H
  have c7b0 : decide (t245 < 0) = true := decide_eq_true c7
  clear c7
  (first | rw [c7b0] | (simp only [i64_w, i32_w]; rw [c7b0]) | rw [c7b2] | rw [c7b1] | skip)
  obtain rfl := Option.some.inj H
  go_wp2
  go_ret
  exact ⟨by first | rfl | (simp [errW_none, errW_some] <;> rfl) | (simp [*, errW_none, errW_some] <;> rfl), by exact bw HB.out⟩
 ·
  rw [if_neg c7] at H
  have c7b0 : decide (t245 < 0) = false := decide_eq_false c7
  clear c7
  (first | rw [c7b0] | (simp only [i64_w, i32_w]; rw [c7b0]) | rw [c7b2] | rw [c7b1] | skip)
  replace H := Option.bind_eq_some_iff.mp H
  obtain ⟨⟨t246, t249⟩, A80, H⟩ := H
  replace H : ((spec_SchemaValid.f k t246 t249).bind fun t252 => ((laws_toSchema.f k l0_0 l0_1).bind fun bt253 => ((impl_SchemaValid.f k bt253.1 bt253.2).bind fun t260 => (if (t260 != t252) = true then (some false) else ((laws_toSchema.f k l0_0 l0_1).bind fun bt261 => ((laws_eqSchema.f k bt253.1 bt253.2 bt261.1 bt261.2).bind fun t267 => (if t267 = true then (some true) else (some false)))))))) = some r := H
  have A8 := Aside0.mk A80
  clear A80
  replace H := Option.bind_eq_some_iff.mp H
  obtain ⟨t252, A90, H⟩ := H
  replace H : ((laws_toSchema.f k l0_0 l0_1).bind fun bt253 => ((impl_SchemaValid.f k bt253.1 bt253.2).bind fun t260 => (if (t260 != t252) = true then (some false) else ((laws_toSchema.f k l0_0 l0_1).bind fun bt261 => ((laws_eqSchema.f k bt253.1 bt253.2 bt261.1 bt261.2).bind fun t267 => (if t267 = true then (some true) else (some false))))))) = some r := H
  have A9 := Aside0.mk A90
  clear A90
  replace H := Option.bind_eq_some_iff.mp H
  obtain ⟨⟨t253, t256⟩, A100, H⟩ := H
  replace H : ((impl_SchemaValid.f k t253 t256).bind fun t260 => (if (t260 != t252) = true then (some false) else ((laws_toSchema.f k l0_0 l0_1).bind fun bt261 => ((laws_eqSchema.f k t253 t256 bt261.1 bt261.2).bind fun t267 => (if t267 = true then (some true) else (some false)))))) = some r := H
  have A10 := Aside0.mk A100
  clear A100
  replace H := Option.bind_eq_some_iff.mp H
  obtain ⟨t260, A110, H⟩ := H
  replace H : (if (t260 != t252) = true then (some false) else ((laws_toSchema.f k l0_0 l0_1).bind fun bt261 => ((laws_eqSchema.f k t253 t256 bt261.1 bt261.2).bind fun t267 => (if t267 = true then (some true) else (some false))))) = some r := H
  have A11 := Aside0.mk A110
  clear A110
  have HC12 := Aside0.mk H
  clear H
  have hcz13_0 : w6.cell? ⟨gb244, 0, none⟩ = some (.slice A0_0 l0_0.length c0_0) := (blk_cell BK244.out 0).trans rfl
  have hcz13_1 : w6.cell? ⟨gb244, 1, none⟩ = some (.slice A0_1 l0_1.length c0_1) := (blk_cell BK244.out 1).trans rfl
  have hfz13_0 := blk_frozen BK244.out 0
  have hfz13_1 := blk_frozen BK244.out 1
  go_upto_if 21 with (first | ((with_reducible refine gate_callee (f := 16) rfl ?_); refine gl (some 13) Try.func16 #[.agg #[.slice A0_0 l0_0.length c0_0, .slice A0_1 l0_1.length c0_1]] ?_; (with_reducible refine (laws_toSchema.calls k _ _ l0_0 _ _ l0_1 t246 t249 _ ?side1 ?side2 ?side3 ?side4 A8.out).mono ?_); (case side1 => repeat (first | exact (Kd.C_below HR0_0.out HB.out) | (with_reducible refine Kd.C_alloc ?_ _) | (with_reducible refine Kd.C_drewN ?_ _) | (with_reducible refine Kd.C_drew ?_))); (case side2 => exact HC0_0.out); (case side3 => repeat (first | exact (Kd.C_below HR0_1.out HB.out) | (with_reducible refine Kd.C_alloc ?_ _) | (with_reducible refine Kd.C_drewN ?_ _) | (with_reducible refine Kd.C_drew ?_))); (case side4 => exact HC0_1.out); rintro e w14 ⟨v247, v250, rfl, ho0, ho1, hb⟩; refine ⟨_, rfl, ?_⟩; have n0_ := Aside0.mk (Kd.R_lower ho0 (below_size (by exact bw HB.out))); have n1_ := Aside0.mk (Kd.R_lower ho1 (below_size (by exact bw HB.out))); have n2_ := Aside0.mk (blk_below (g := gb244) (o := .cells #[.slice A0_0 l0_0.length c0_0, .slice A0_1 l0_1.length c0_1] 32 (0, 0)) (by exact bk BK244.out) hb); have n3_ := Aside0.mk (below_step (by exact bw HB.out) hb); clear BK244; clear HB; have HO248 := n0_; have HO251 := n1_; have BK244 := n2_; have HB := n3_; clear n0_ n1_ n2_ n3_; (try clear hb); (try clear hb2); (try clear hk); (try clear hi); (try clear ho0); (try clear ho1); obtain ⟨Ao15, co15, eo15⟩ := Kd.R_slice HO248.out; subst eo15; obtain ⟨Ao16, co16, eo16⟩ := Kd.R_slice HO251.out; subst eo16) | ((with_reducible refine gate_callee (f := 13) rfl ?_); refine gl (some 14) Try.func13 #[.agg #[.slice Ao15 t246.length co15, .slice Ao16 t249.length co16]] ?_; (with_reducible refine (spec_SchemaValid.calls k _ _ t246 _ _ t249 t252 _ ?side1 ?side2 ?side3 ?side4 A9.out).mono ?_); (case side1 => repeat (first | exact (Kd.R_reads' HO248.out).2.2 | (with_reducible refine Kd.C_alloc ?_ _) | (with_reducible refine Kd.C_drewN ?_ _) | (with_reducible refine Kd.C_drew ?_))); (case side2 => exact (Kd.R_reads' HO248.out).2.1); (case side3 => repeat (first | exact (Kd.R_reads' HO251.out).2.2 | (with_reducible refine Kd.C_alloc ?_ _) | (with_reducible refine Kd.C_drewN ?_ _) | (with_reducible refine Kd.C_drew ?_))); (case side4 => exact (Kd.R_reads' HO251.out).2.1); rintro e w17 ⟨rfl, hb⟩; refine ⟨_, rfl, ?_⟩; have n0_ := Aside0.mk (Kd.R_below (by exact Kd.xR HO248.out) hb); have n1_ := Aside0.mk (Kd.R_below (by exact Kd.xR HO251.out) hb); have n2_ := Aside0.mk (blk_below (g := gb244) (o := .cells #[.slice A0_0 l0_0.length c0_0, .slice A0_1 l0_1.length c0_1] 32 (0, 0)) (by exact bk BK244.out) hb); have n3_ := Aside0.mk (below_step (by exact bw HB.out) hb); clear HO248; clear HO251; clear BK244; clear HB; have HO248 := n0_; have HO251 := n1_; have BK244 := n2_; have HB := n3_; clear n0_ n1_ n2_ n3_; (try clear hb); (try clear hb2); (try clear hk); (try clear hi); have hcz18_0 : w17.cell? ⟨gb244, 0, none⟩ = some (.slice A0_0 l0_0.length c0_0) := (blk_cell BK244.out 0).trans rfl; have hcz18_1 : w17.cell? ⟨gb244, 1, none⟩ = some (.slice A0_1 l0_1.length c0_1) := (blk_cell BK244.out 1).trans rfl; have hfz18_0 := blk_frozen BK244.out 0; have hfz18_1 := blk_frozen BK244.out 1) | ((with_reducible refine gate_callee (f := 16) rfl ?_); refine gl (some 16) Try.func16 #[.agg #[.slice A0_0 l0_0.length c0_0, .slice A0_1 l0_1.length c0_1]] ?_; (with_reducible refine (laws_toSchema.calls k _ _ l0_0 _ _ l0_1 t253 t256 _ ?side1 ?side2 ?side3 ?side4 A10.out).mono ?_); (case side1 => repeat (first | exact (Kd.C_below HR0_0.out HB.out) | (with_reducible refine Kd.C_alloc ?_ _) | (with_reducible refine Kd.C_drewN ?_ _) | (with_reducible refine Kd.C_drew ?_))); (case side2 => exact HC0_0.out); (case side3 => repeat (first | exact (Kd.C_below HR0_1.out HB.out) | (with_reducible refine Kd.C_alloc ?_ _) | (with_reducible refine Kd.C_drewN ?_ _) | (with_reducible refine Kd.C_drew ?_))); (case side4 => exact HC0_1.out); rintro e w19 ⟨v254, v257, rfl, ho0, ho1, hb⟩; refine ⟨_, rfl, ?_⟩; have n0_ := Aside0.mk (Kd.R_mono (Kd.R_told (Kd.R_told (Kd.R_old (by exact Kd.xR HO248.out) hb) (Kd.R_base ho0)) (Kd.R_base ho1)) (fun _ h_ => h_.1)); have n1_ := Aside0.mk (Kd.R_mono (Kd.R_told (Kd.R_told (Kd.R_old (by exact Kd.xR HO251.out) hb) (Kd.R_base ho0)) (Kd.R_base ho1)) (fun _ h_ => h_.1)); have n2_ := Aside0.mk (Kd.R_lower (Kd.R_new' (Kd.R_new' ho0 (Kd.R_lt (by exact Kd.xR HO248.out))) (Kd.R_lt (by exact Kd.xR HO251.out))) (below_size (by exact bw HB.out))); have n3_ := Aside0.mk (Kd.R_lower (Kd.R_new' (Kd.R_new' ho1 (Kd.R_lt (by exact Kd.xR HO248.out))) (Kd.R_lt (by exact Kd.xR HO251.out))) (below_size (by exact bw HB.out))); have n4_ := Aside0.mk (blk_below (g := gb244) (o := .cells #[.slice A0_0 l0_0.length c0_0, .slice A0_1 l0_1.length c0_1] 32 (0, 0)) (by exact bk BK244.out) hb); have n5_ := Aside0.mk (below_step (by exact bw HB.out) hb); clear HO248; clear HO251; clear BK244; clear HB; have HO248 := n0_; have HO251 := n1_; have HO255 := n2_; have HO258 := n3_; have BK244 := n4_; have HB := n5_; clear n0_ n1_ n2_ n3_ n4_ n5_; (try clear hb); (try clear hb2); (try clear hk); (try clear hi); (try clear ho0); (try clear ho1)) | ((with_reducible refine gate_dst (N := 5) rfl ?_); refine box_event ?hg (N := 5) ?hd (cs := #[.slice none 0 0, .slice none 0 0]) (t := 25) ?hr ?_; (case hd => rfl); (case hg => rfl); (case hr => first | (go_simp; done) | (go_simp; rfl)); intro gb259 hg w20 hbox hb; have n0_ := Aside0.mk (Kd.R_below (by exact Kd.xR HO248.out) hb); have n1_ := Aside0.mk (Kd.R_below (by exact Kd.xR HO251.out) hb); have n2_ := Aside0.mk (Kd.R_below (by exact Kd.xR HO255.out) hb); have n3_ := Aside0.mk (Kd.R_below (by exact Kd.xR HO258.out) hb); have n4_ := Aside0.mk (blk_below (g := gb244) (o := .cells #[.slice A0_0 l0_0.length c0_0, .slice A0_1 l0_1.length c0_1] 32 (0, 0)) (by exact bk BK244.out) hb); have n5_ := Aside0.mk (below_step (by exact bw HB.out) hb); have n6_ := Aside0.mk (hbox); have n7_ := Aside0.mk ((by rw [hg]; exact (below_size (by exact bw HB.out)) : w.heap.size ≤ gb259)); have n8_ := Aside0.mk ((by rw [hg]; exact (below_size (by exact bw HB.out)) : w.heap.size ≤ gb259)); have n9_ := Aside0.mk ((by rw [hg]; exact Nat.ne_of_lt (blk_lt (g := gb244) (o := .cells #[.slice A0_0 l0_0.length c0_0, .slice A0_1 l0_1.length c0_1] 32 (0, 0)) (by exact bk BK244.out)) : gb244 ≠ gb259)); have n10_ := Aside0.mk ((by rw [hg]; exact Nat.ne_of_gt (blk_lt (g := gb244) (o := .cells #[.slice A0_0 l0_0.length c0_0, .slice A0_1 l0_1.length c0_1] 32 (0, 0)) (by exact bk BK244.out)) : gb259 ≠ gb244)); clear HO248; clear HO251; clear HO255; clear HO258; clear BK244; clear HB; have HO248 := n0_; have HO251 := n1_; have HO255 := n2_; have HO258 := n3_; have BK244 := n4_; have HB := n5_; have BK259 := n6_; have GW259 := n7_; have GE259 := n8_; have NB244_259 := n9_; have NB259_244 := n10_; clear n0_ n1_ n2_ n3_ n4_ n5_ n6_ n7_ n8_ n9_ n10_; clear hb hbox hg; obtain ⟨Ao21, co21, eo21⟩ := Kd.R_slice HO255.out; subst eo21; have hnb22 := NB259_244.out; have hnc22 := NB244_259.out; have hcz23_0 : w20.cell? ⟨gb259, 0, none⟩ = some (.slice none 0 0) := (blk_cell BK259.out 0).trans rfl; have hcz23_1 : w20.cell? ⟨gb259, 1, none⟩ = some (.slice none 0 0) := (blk_cell BK259.out 1).trans rfl; have hfz23_0 := blk_frozen BK259.out 0; have hfz23_1 := blk_frozen BK259.out 1; obtain ⟨Ao24, co24, eo24⟩ := Kd.R_slice HO258.out; subst eo24) | ((with_reducible refine gate_store (t := 25) (p := 5) rfl ?_); refine store_event (t := 25) (p := 5) (v := ?vo_w25) (w1 := ((w20.setCell ⟨gb259, 0, none⟩ (.slice Ao21 t253.length co21)).setCell ⟨gb259, 1, none⟩ (.slice Ao24 t256.length co24))) ?hg ?ho ?hn ?hr ?_; (case ho => rfl); (case hg => rfl); (case hn => rfl); (case hr => first | (go_simp; done) | (go_simp; rfl)); intro w25 hw; have n0_ : Aside0 (Kd.R k83 83 w25 w.heap.size (fun k_ => some k_ ≠ (.slice Ao16 t249.length co16 : Value).ownBlock ∧ some k_ ≠ (.slice Ao21 t253.length co21 : Value).ownBlock ∧ some k_ ≠ (.slice Ao24 t256.length co24 : Value).ownBlock) (.slice Ao15 t246.length co15) t246) := ⟨(by rw [hw]; exact (by (with_reducible repeat (first | apply Kd.R_alloc | apply Kd.R_drewN | apply Kd.R_drew)); exact Kd.R_mono (Kd.R_far (p := ⟨gb259, 1, none⟩) (Kd.R_far (p := ⟨gb259, 0, none⟩) (Kd.R_types HO248.out BK259.out (by decide)) (fun _ hk => hk.2) (.slice Ao21 t253.length co21)) (fun _ hk => hk.2) (.slice Ao24 t256.length co24)) (fun _ hk => okp hk)))⟩; have n1_ : Aside0 (Kd.R k83 83 w25 w.heap.size (fun k_ => some k_ ≠ (.slice Ao15 t246.length co15 : Value).ownBlock ∧ some k_ ≠ (.slice Ao21 t253.length co21 : Value).ownBlock ∧ some k_ ≠ (.slice Ao24 t256.length co24 : Value).ownBlock) (.slice Ao16 t249.length co16) t249) := ⟨(by rw [hw]; exact (by (with_reducible repeat (first | apply Kd.R_alloc | apply Kd.R_drewN | apply Kd.R_drew)); exact Kd.R_mono (Kd.R_far (p := ⟨gb259, 1, none⟩) (Kd.R_far (p := ⟨gb259, 0, none⟩) (Kd.R_types HO251.out BK259.out (by decide)) (fun _ hk => hk.2) (.slice Ao21 t253.length co21)) (fun _ hk => hk.2) (.slice Ao24 t256.length co24)) (fun _ hk => okp hk)))⟩; have n2_ : Aside0 (Kd.R k83 83 w25 w.heap.size (fun k_ => some k_ ≠ (.slice Ao15 t246.length co15 : Value).ownBlock ∧ some k_ ≠ (.slice Ao16 t249.length co16 : Value).ownBlock ∧ some k_ ≠ (.slice Ao24 t256.length co24 : Value).ownBlock) (.slice Ao21 t253.length co21) t253) := ⟨(by rw [hw]; exact (by (with_reducible repeat (first | apply Kd.R_alloc | apply Kd.R_drewN | apply Kd.R_drew)); exact Kd.R_mono (Kd.R_far (p := ⟨gb259, 1, none⟩) (Kd.R_far (p := ⟨gb259, 0, none⟩) (Kd.R_types HO255.out BK259.out (by decide)) (fun _ hk => hk.2) (.slice Ao21 t253.length co21)) (fun _ hk => hk.2) (.slice Ao24 t256.length co24)) (fun _ hk => okp hk)))⟩; have n3_ : Aside0 (Kd.R k83 83 w25 w.heap.size (fun k_ => some k_ ≠ (.slice Ao15 t246.length co15 : Value).ownBlock ∧ some k_ ≠ (.slice Ao16 t249.length co16 : Value).ownBlock ∧ some k_ ≠ (.slice Ao21 t253.length co21 : Value).ownBlock) (.slice Ao24 t256.length co24) t256) := ⟨(by rw [hw]; exact (by (with_reducible repeat (first | apply Kd.R_alloc | apply Kd.R_drewN | apply Kd.R_drew)); exact Kd.R_mono (Kd.R_far (p := ⟨gb259, 1, none⟩) (Kd.R_far (p := ⟨gb259, 0, none⟩) (Kd.R_types HO258.out BK259.out (by decide)) (fun _ hk => hk.2) (.slice Ao21 t253.length co21)) (fun _ hk => hk.2) (.slice Ao24 t256.length co24)) (fun _ hk => okp hk)))⟩; have n4_ : Aside0 (w25.heap[gb244]? = some (.cells #[.slice A0_0 l0_0.length c0_0, .slice A0_1 l0_1.length c0_1] 32 (0, 0))) := ⟨(by rw [hw]; exact (by (with_reducible repeat (first | refine blk_drewN ?_ _ | refine blk_drew ?_ | refine blk_alloc ?_ _)); refine blk_far ?_ NB244_259.out _; (with_reducible repeat (first | refine blk_drewN ?_ _ | refine blk_drew ?_ | refine blk_alloc ?_ _)); refine blk_far ?_ NB244_259.out _; exact bk BK244.out))⟩; have n5_ : Aside0 (w25.heap[gb259]? = some (.cells #[.slice Ao21 t253.length co21, .slice Ao24 t256.length co24] 25 (0, 0))) := ⟨(by rw [hw]; exact (by (with_reducible repeat (first | refine blk_drewN ?_ _ | refine blk_drew ?_ | refine blk_alloc ?_ _)); refine blk_put (cs := #[.slice Ao21 t253.length co21, .slice none 0 0]) ?_ 1 _ rfl; (with_reducible repeat (first | refine blk_drewN ?_ _ | refine blk_drew ?_ | refine blk_alloc ?_ _)); refine blk_put (cs := #[.slice none 0 0, .slice none 0 0]) ?_ 0 _ rfl; exact bk BK259.out))⟩; have n6_ : Aside0 (Below w.heap.size w w25) := ⟨(by rw [hw]; exact (by exact bw HB.out))⟩; clear hw; clear HO248; clear HO251; clear HO255; clear HO258; clear BK244; clear BK259; clear HB; have HO248 := n0_; have HO251 := n1_; have HO255 := n2_; have HO258 := n3_; have BK244 := n4_; have BK259 := n5_; have HB := n6_; clear n0_ n1_ n2_ n3_ n4_ n5_ n6_; have hcz26_0 : w25.cell? ⟨gb259, 0, none⟩ = some (.slice Ao21 t253.length co21) := (blk_cell BK259.out 0).trans rfl; have hcz26_1 : w25.cell? ⟨gb259, 1, none⟩ = some (.slice Ao24 t256.length co24) := (blk_cell BK259.out 1).trans rfl; have hfz26_0 := blk_frozen BK259.out 0; have hfz26_1 := blk_frozen BK259.out 1) | ((with_reducible refine gate_callee (f := 12) rfl ?_); refine gl (some 18) Try.func12 #[.agg #[.slice Ao21 t253.length co21, .slice Ao24 t256.length co24]] ?_; (with_reducible refine (impl_SchemaValid.calls k (fun k_ => some k_ = (.slice Ao21 t253.length co21 : Value).ownBlock) _ _ t253 (fun k_ => some k_ = (.slice Ao24 t256.length co24 : Value).ownBlock) _ _ t256 t260 _ ?side1 ?side2 A11.out).mono ?_); (case side1 => exact Kd.R_V (Kd.R_tight rfl (Kd.R_types (Kd.R_types (HO255.out) BK244.out (by decide)) BK259.out (by decide)))); (case side2 => exact Kd.R_V (Kd.R_tight rfl (Kd.R_types (Kd.R_types (HO258.out) BK244.out (by decide)) BK259.out (by decide)))); rintro e w27 ⟨rfl, hb⟩; refine ⟨_, rfl, ?_⟩; have n0_ := Aside0.mk (Kd.R_below (by exact Kd.xR HO248.out) hb); have n1_ := Aside0.mk (Kd.R_below (by exact Kd.xR HO251.out) hb); have n2_ := Aside0.mk (Kd.R_below (by exact Kd.xR HO255.out) hb); have n3_ := Aside0.mk (Kd.R_below (by exact Kd.xR HO258.out) hb); have n4_ := Aside0.mk (blk_below (g := gb244) (o := .cells #[.slice A0_0 l0_0.length c0_0, .slice A0_1 l0_1.length c0_1] 32 (0, 0)) (by exact bk BK244.out) hb); have n5_ := Aside0.mk (blk_below (g := gb259) (o := .cells #[.slice Ao21 t253.length co21, .slice Ao24 t256.length co24] 25 (0, 0)) (by exact bk BK259.out) hb); have n6_ := Aside0.mk (below_step (by exact bw HB.out) hb); clear HO248; clear HO251; clear HO255; clear HO258; clear BK244; clear BK259; clear HB; have HO248 := n0_; have HO251 := n1_; have HO255 := n2_; have HO258 := n3_; have BK244 := n4_; have BK259 := n5_; have HB := n6_; clear n0_ n1_ n2_ n3_ n4_ n5_ n6_; (try clear hb); (try clear hb2); (try clear hk); (try clear hi)))
  (try simp only [Act.put, List.setIfInBounds_toArray, List.set_cons_zero, List.set_cons_succ])
  have H := HC12.out
  clear HC12
  by_cases c28 : (t260 != t252) = true
  ·
   rw [if_pos c28] at H
   have c28b0 : (t260 != t252) = true := c28
   (try (have c28b1 : decide (t260 = t252) = false := by simpa using c28))
   (try (have c28b2 : (t260 == t252) = false := by simpa using c28))
   (try (have c28b3 : ¬ (t260 = t252) := by simpa using c28))
   clear c28
   (first | rw [c28b0] | (simp only [i64_w, i32_w]; rw [c28b0]) | rw [c28b2] | rw [c28b1] | skip)
   obtain rfl := Option.some.inj H
   go_wp2
   go_ret
   exact ⟨by first | rfl | (simp [errW_none, errW_some] <;> rfl) | (simp [*, errW_none, errW_some] <;> rfl), by exact bw HB.out⟩
  ·
   rw [if_neg c28] at H
   have c28b0 : (t260 != t252) = false := by simpa using c28
   (try (have c28b1 : decide (t260 = t252) = true := by simpa using c28))
   (try (have c28b2 : (t260 == t252) = true := by simpa using c28))
   clear c28
   (first | rw [c28b0] | (simp only [i64_w, i32_w]; rw [c28b0]) | rw [c28b2] | rw [c28b1] | skip)
   replace H := Option.bind_eq_some_iff.mp H
   obtain ⟨⟨t261, t264⟩, A290, H⟩ := H
   replace H : ((laws_eqSchema.f k t253 t256 t261 t264).bind fun t267 => (if t267 = true then (some true) else (some false))) = some r := H
   have A29 := Aside0.mk A290
   clear A290
   replace H := Option.bind_eq_some_iff.mp H
   obtain ⟨t267, A300, H⟩ := H
   replace H : (if t267 = true then (some true) else (some false)) = some r := H
   have A30 := Aside0.mk A300
   clear A300
   have HC31 := Aside0.mk H
   clear H
   try go_wp2
   have n0_ := Aside0.mk (Kd.R_drew HO248.out)
   have n1_ := Aside0.mk (Kd.R_drew HO251.out)
   have n2_ := Aside0.mk (Kd.R_drew HO255.out)
   have n3_ := Aside0.mk (Kd.R_drew HO258.out)
   have n4_ := Aside0.mk (blk_drew BK244.out)
   have n5_ := Aside0.mk (blk_drew BK259.out)
   have n6_ := Aside0.mk (below_drew1 HB.out)
   clear HO248
   clear HO251
   clear HO255
   clear HO258
   clear BK244
   clear BK259
   clear HB
   have HO248 := n0_
   have HO251 := n1_
   have HO255 := n2_
   have HO258 := n3_
   have BK244 := n4_
   have BK259 := n5_
   have HB := n6_
   clear n0_ n1_ n2_ n3_ n4_ n5_ n6_
   refine start_ (n := 5) (S := fun w' => w'.cell? ⟨gb259, 0, none⟩ = some (.slice Ao21 t253.length co21) ∧ w'.cell? ⟨gb259, 1, none⟩ = some (.slice Ao24 t256.length co24) ∧ w'.cell? ⟨gb244, 0, none⟩ = some (.slice A0_0 l0_0.length c0_0) ∧ w'.cell? ⟨gb244, 1, none⟩ = some (.slice A0_1 l0_1.length c0_1)) (ds := []) #[false, false, false, false, false] (by kernel_rfl) rfl rfl ⟨(blk_cell BK259.out 0).trans rfl, (blk_cell BK259.out 1).trans rfl, (blk_cell BK244.out 0).trans rfl, (blk_cell BK244.out 1).trans rfl⟩ (fun hHeld => ?_)
   generalize w27.drew = w32 at HO248 HO251 HO255 HO258 BK244 BK259 HB hHeld ⊢
   refine take_ (i := 0) (N := some 22) (v := ?_) (a' := ?_) #[true, false, false, false, false] rfl rfl (by kernel_rfl) (fun _ _ _ h => h) (Or.inl ⟨by rfl, ?_⟩) hHeld ?_ ?_
   rotate_left
   ·
    rintro w' ⟨s0, s1, s2, s3⟩
    go_simp
    with_reducible rfl
   rotate_left
   ·
    simp only [Act.put, List.setIfInBounds_toArray, List.set_cons_zero, List.set_cons_succ, i64_w, i32_w]
    rfl
   refine take_ (i := 1) (N := some 23) (v := ?_) (a' := ?_) #[true, true, false, false, false] rfl rfl (by kernel_rfl) (fun _ _ _ h => h) (Or.inl ⟨by rfl, ?_⟩) hHeld ?_ ?_
   rotate_left
   ·
    rintro w' ⟨s0, s1, s2, s3⟩
    go_simp
    with_reducible rfl
   rotate_left
   ·
    simp only [Act.put, List.setIfInBounds_toArray, List.set_cons_zero, List.set_cons_succ, i64_w, i32_w]
    rfl
   refine one_ (i := 2) (N := some 24) #[true, true, true, false, false] rfl rfl (by kernel_rfl) (by decide) (fun K hK => ?_)
   refine goes_ Try.func16 (by kernel_rfl) rfl #[.agg #[.slice A0_0 l0_0.length c0_0, .slice A0_1 l0_1.length c0_1]] (by rfl) rfl rfl (by (try simp only [List.map_toArray, List.map_cons, List.map_nil]); first | done | rfl | (simp only [List.length_drop, List.length_take]; rfl)) ?_
   with_reducible refine (laws_toSchema.calls k _ _ l0_0 _ _ l0_1 t261 t264 _ ?side1 ?side2 ?side3 ?side4 A29.out).mono ?_
   (case side1 => repeat (first | exact (Kd.C_below HR0_0.out HB.out) | (with_reducible refine Kd.C_alloc ?_ _) | (with_reducible refine Kd.C_drewN ?_ _) | (with_reducible refine Kd.C_drew ?_)))
   (case side2 => exact HC0_0.out)
   (case side3 => repeat (first | exact (Kd.C_below HR0_1.out HB.out) | (with_reducible refine Kd.C_alloc ?_ _) | (with_reducible refine Kd.C_drewN ?_ _) | (with_reducible refine Kd.C_drew ?_)))
   (case side4 => exact HC0_1.out)
   rintro e w33 ⟨v262, v265, rfl, ho0, ho1, hb⟩
   refine ⟨_, rfl, ?_⟩
   have n0_ := Aside0.mk (Kd.R_mono (Kd.R_told (Kd.R_told (Kd.R_old (by exact Kd.xR HO248.out) hb) (Kd.R_base ho0)) (Kd.R_base ho1)) (fun _ h_ => h_.1))
   have n1_ := Aside0.mk (Kd.R_mono (Kd.R_told (Kd.R_told (Kd.R_old (by exact Kd.xR HO251.out) hb) (Kd.R_base ho0)) (Kd.R_base ho1)) (fun _ h_ => h_.1))
   have n2_ := Aside0.mk (Kd.R_mono (Kd.R_told (Kd.R_told (Kd.R_old (by exact Kd.xR HO255.out) hb) (Kd.R_base ho0)) (Kd.R_base ho1)) (fun _ h_ => h_.1))
   have n3_ := Aside0.mk (Kd.R_mono (Kd.R_told (Kd.R_told (Kd.R_old (by exact Kd.xR HO258.out) hb) (Kd.R_base ho0)) (Kd.R_base ho1)) (fun _ h_ => h_.1))
   have n4_ := Aside0.mk (Kd.R_lower (Kd.R_new' (Kd.R_new' (Kd.R_new' (Kd.R_new' ho0 (Kd.R_lt (by exact Kd.xR HO248.out))) (Kd.R_lt (by exact Kd.xR HO251.out))) (Kd.R_lt (by exact Kd.xR HO255.out))) (Kd.R_lt (by exact Kd.xR HO258.out))) (below_size (by exact bw HB.out)))
   have n5_ := Aside0.mk (Kd.R_lower (Kd.R_new' (Kd.R_new' (Kd.R_new' (Kd.R_new' ho1 (Kd.R_lt (by exact Kd.xR HO248.out))) (Kd.R_lt (by exact Kd.xR HO251.out))) (Kd.R_lt (by exact Kd.xR HO255.out))) (Kd.R_lt (by exact Kd.xR HO258.out))) (below_size (by exact bw HB.out)))
   have n6_ := Aside0.mk (blk_below (g := gb244) (o := .cells #[.slice A0_0 l0_0.length c0_0, .slice A0_1 l0_1.length c0_1] 32 (0, 0)) (by exact bk BK244.out) hb)
   have n7_ := Aside0.mk (blk_below (g := gb259) (o := .cells #[.slice Ao21 t253.length co21, .slice Ao24 t256.length co24] 25 (0, 0)) (by exact bk BK259.out) hb)
   have n8_ := Aside0.mk (below_step (by exact bw HB.out) hb)
   clear HO248
   clear HO251
   clear HO255
   clear HO258
   clear BK244
   clear BK259
   clear HB
   have HO248 := n0_
   have HO251 := n1_
   have HO255 := n2_
   have HO258 := n3_
   have HO263 := n4_
   have HO266 := n5_
   have BK244 := n6_
   have BK259 := n7_
   have HB := n8_
   clear n0_ n1_ n2_ n3_ n4_ n5_ n6_ n7_ n8_
   (try clear hb)
   (try clear hb2)
   (try clear hk)
   (try clear hi)
   (try clear ho0)
   (try clear ho1)
   obtain ⟨Ao34, co34, eo34⟩ := Kd.R_slice HO263.out
   (first | subst eo34 | (injection eo34 with f1_ f2_ f3_; have f4_ := f1_.symm; have f5_ := f3_.symm; clear f1_ f2_ f3_; subst f4_; subst f5_))
   obtain ⟨Ao35, co35, eo35⟩ := Kd.R_slice HO266.out
   (first | subst eo35 | (injection eo35 with f1_ f2_ f3_; have f4_ := f1_.symm; have f5_ := f3_.symm; clear f1_ f2_ f3_; subst f4_; subst f5_))
   refine hK.out _ _ ⟨(blk_cell BK259.out 0).trans rfl, (blk_cell BK259.out 1).trans rfl, (blk_cell BK244.out 0).trans rfl, (blk_cell BK244.out 1).trans rfl⟩ (fun hHeld => ?_)
   clear hK K
   refine norm_ (a' := ?_) ?_ ?_
   rotate_left
   ·
    show Act.put _ (some 24) _ = _
    simp only [Act.put, List.setIfInBounds_toArray, List.set_cons_zero, List.set_cons_succ, i64_w, i32_w]
    rfl
   refine one_ (i := 3) (N := some 25) #[true, true, true, true, false] rfl rfl (by kernel_rfl) (by decide) (fun K hK => ?_)
   refine goes_ Try.func17 (by kernel_rfl) rfl #[.agg #[.slice Ao21 t253.length co21, .slice Ao24 t256.length co24], .agg #[.slice Ao34 t261.length co34, .slice Ao35 t264.length co35]] (by rfl) rfl rfl (by (try simp only [List.map_toArray, List.map_cons, List.map_nil]); first | done | rfl | (simp only [List.length_drop, List.length_take]; rfl)) ?_
   with_reducible refine (laws_eqSchema.calls k _ _ t253 _ _ t256 _ _ t261 _ _ t264 t267 _ ?side1 ?side2 ?side3 ?side4 ?side5 ?side6 ?side7 ?side8 A30.out).mono ?_
   (case side1 => repeat (first | exact (Kd.R_reads' HO255.out).2.2 | (with_reducible refine Kd.C_alloc ?_ _) | (with_reducible refine Kd.C_drewN ?_ _) | (with_reducible refine Kd.C_drew ?_)))
   (case side2 => exact (Kd.R_reads' HO255.out).2.1)
   (case side3 => repeat (first | exact (Kd.R_reads' HO258.out).2.2 | (with_reducible refine Kd.C_alloc ?_ _) | (with_reducible refine Kd.C_drewN ?_ _) | (with_reducible refine Kd.C_drew ?_)))
   (case side4 => exact (Kd.R_reads' HO258.out).2.1)
   (case side5 => repeat (first | exact (Kd.R_reads' HO263.out).2.2 | (with_reducible refine Kd.C_alloc ?_ _) | (with_reducible refine Kd.C_drewN ?_ _) | (with_reducible refine Kd.C_drew ?_)))
   (case side6 => exact (Kd.R_reads' HO263.out).2.1)
   (case side7 => repeat (first | exact (Kd.R_reads' HO266.out).2.2 | (with_reducible refine Kd.C_alloc ?_ _) | (with_reducible refine Kd.C_drewN ?_ _) | (with_reducible refine Kd.C_drew ?_)))
   (case side8 => exact (Kd.R_reads' HO266.out).2.1)
   rintro e w36 ⟨rfl, hb⟩
   refine ⟨_, rfl, ?_⟩
   have n0_ := Aside0.mk (Kd.R_below (by exact Kd.xR HO248.out) hb)
   have n1_ := Aside0.mk (Kd.R_below (by exact Kd.xR HO251.out) hb)
   have n2_ := Aside0.mk (Kd.R_below (by exact Kd.xR HO255.out) hb)
   have n3_ := Aside0.mk (Kd.R_below (by exact Kd.xR HO258.out) hb)
   have n4_ := Aside0.mk (Kd.R_below (by exact Kd.xR HO263.out) hb)
   have n5_ := Aside0.mk (Kd.R_below (by exact Kd.xR HO266.out) hb)
   have n6_ := Aside0.mk (blk_below (g := gb244) (o := .cells #[.slice A0_0 l0_0.length c0_0, .slice A0_1 l0_1.length c0_1] 32 (0, 0)) (by exact bk BK244.out) hb)
   have n7_ := Aside0.mk (blk_below (g := gb259) (o := .cells #[.slice Ao21 t253.length co21, .slice Ao24 t256.length co24] 25 (0, 0)) (by exact bk BK259.out) hb)
   have n8_ := Aside0.mk (below_step (by exact bw HB.out) hb)
   clear HO248
   clear HO251
   clear HO255
   clear HO258
   clear HO263
   clear HO266
   clear BK244
   clear BK259
   clear HB
   have HO248 := n0_
   have HO251 := n1_
   have HO255 := n2_
   have HO258 := n3_
   have HO263 := n4_
   have HO266 := n5_
   have BK244 := n6_
   have BK259 := n7_
   have HB := n8_
   clear n0_ n1_ n2_ n3_ n4_ n5_ n6_ n7_ n8_
   (try clear hb)
   (try clear hb2)
   (try clear hk)
   (try clear hi)
   refine hK.out _ _ ⟨(blk_cell BK259.out 0).trans rfl, (blk_cell BK259.out 1).trans rfl, (blk_cell BK244.out 0).trans rfl, (blk_cell BK244.out 1).trans rfl⟩ (fun hHeld => ?_)
   clear hK K
   refine norm_ (a' := ?_) ?_ ?_
   rotate_left
   ·
    show Act.put _ (some 25) _ = _
    simp only [Act.put, List.setIfInBounds_toArray, List.set_cons_zero, List.set_cons_succ, i64_w, i32_w]
    rfl
   refine pure_ (i := 4) (N := some 26) (v := ?_) (a' := ?_) #[true, true, true, true, true] rfl rfl (by kernel_rfl) (fun _ _ _ h => h) (Or.inl ⟨by rfl, ?_⟩) ?_ ?_
   rotate_left
   ·
    intro w'
    go_simp
    with_reducible rfl
   rotate_left
   ·
    simp only [Act.put, List.setIfInBounds_toArray, List.set_cons_zero, List.set_cons_succ, i64_w, i32_w]
    rfl
   refine done_ (by kernel_rfl) ?_
   go_upto_if 26 with (fail)
   have H := HC31.out
   clear HC31
   by_cases c37 : t267 = true
   ·
    subst c37
    have H1 : (some true) = some r := by rw [if_pos rfl] at H; exact H
    clear H
    have H := H1
    clear H1
    obtain rfl := Option.some.inj H
    go_wp2
    go_ret
    exact ⟨by first | rfl | (simp [errW_none, errW_some] <;> rfl) | (simp [*, errW_none, errW_some] <;> rfl), by exact bw HB.out⟩
   ·
    replace c37 := Bool.eq_false_iff.mpr c37
    subst c37
    have H1 : (some false) = some r := by rw [if_neg (show ¬ (false = true) by decide)] at H; exact H
    clear H
    have H := H1
    clear H1
    obtain rfl := Option.some.inj H
    go_wp2
    go_ret
    exact ⟨by first | rfl | (simp [errW_none, errW_some] <;> rfl) | (simp [*, errW_none, errW_some] <;> rfl), by exact bw HB.out⟩

/-- THE ONE PURE STATEMENT of laws_FnExactSchemaValid: yours. -/
def laws_FnExactSchemaValid.Pure : Prop := ∀ (l0_0 : List (S107)) (l0_1 : List (S107)), Fine32 (⟨l0_0, l0_1⟩ : S32) → ∃ k, laws_FnExactSchemaValid.f k l0_0 l0_1 = some true
theorem laws_FnExactSchemaValid.walk (P : laws_FnExactSchemaValid.Pure) (A0_0 : Option Addr) (c0_0 : Nat) (l0_0 : List (S107)) (A0_1 : Option Addr) (c0_1 : Nat) (l0_1 : List (S107)) (w : World) (hr0_0 : Kd.C k107 w A0_0 l0_0.length l0_0) (hc0_0 : l0_0.length ≤ c0_0) (hr0_1 : Kd.C k107 w A0_1 l0_1.length l0_1) (hc0_1 : l0_1.length ≤ c0_1) (w0 : Fine32 (⟨l0_0, l0_1⟩ : S32)) :
  Calls Try.prog 4 #[.agg #[.slice A0_0 l0_0.length c0_0, .slice A0_1 l0_1.length c0_1]] w fun e w' => e = .returned (.bool true) ∧ Below w.heap.size w w' := by
 obtain ⟨k, h⟩ := P l0_0 l0_1 w0
 refine (laws_FnExactSchemaValid.calls k _ _ l0_0 _ _ l0_1 true w hr0_0 hc0_0 hr0_1 hc0_1 h).mono ?_
 rintro e w' ⟨rfl, hd⟩
 exact ⟨rfl, hd⟩

end Go.Proofs.Ytejfaenmgdkaoaa.P
