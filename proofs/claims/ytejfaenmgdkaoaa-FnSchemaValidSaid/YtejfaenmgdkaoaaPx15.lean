-- Written by a program of this session (wip/tool).
import Derived.Test.YtejfaenmgdkaoaaPx0
import Derived.Test.YtejfaenmgdkaoaaPx5
import Derived.Test.YtejfaenmgdkaoaaPx9
import Derived.Test.YtejfaenmgdkaoaaPx13
import Derived.Test.YtejfaenmgdkaoaaPx14
namespace Go.Proofs.Ytejfaenmgdkaoaa.P
open Go.RowKit Go.Proofs.YtejfaenmgdkaoaaW.PrintWords Go.Proofs.YtejfaenmgdkaoaaW.PrintLast Go.Proofs.YtejfaenmgdkaoaaW.PrintMore
attribute [local go_sem] max2_int min2_int max_two min_two max_three min_three max_four min_four   -- for this text's walks alone
set_option linter.unusedVariables false
set_option linter.unusedSimpArgs false

/-! ### laws_FnSchemaValid: function 3 -/
def laws_FnSchemaValid.f (k : Nat) (l0 : List Int) : Option (Bool) := if (l0.length : Int) > 1048576 then (some true) else ((spec_DrawSchemaValid.f k l0).bind fun bt187 => ((impl_SchemaValid.f k bt187.1 bt187.2).bind fun t194 => ((spec_SchemaValid.f k bt187.1 bt187.2).bind fun t195 => (if (t194 != t195) = true then (some false) else ((some (([] : List (S83)) : List (S83))).bind fun y196 => (if y196.length + bt187.2.length < 5864062014805 then ((some (y196 ++ bt187.2 : List (S83))).bind fun y199 => (if y199.length + bt187.2.length < 5864062014805 then ((impl_SchemaValid.f k ([] : List (S83)) ([] : List (S83))).bind fun t206 => (if t206 = true then (if (bt187.2.length : Int) = 0 then ((laws_alive.f k).bind fun t207 => (some t207)) else ((impl_SchemaValid.f k bt187.1 (y199 ++ bt187.2)).bind fun t208 => (if t208 = true then (some false) else ((laws_alive.f k).bind fun t209 => (some t209))))) else (some false))) else (none))) else (none)))))))
theorem laws_FnSchemaValid.mono : ∀ a0 k, LeO (laws_FnSchemaValid.f k a0) (laws_FnSchemaValid.f (k + 1) a0) := by
 intro a0 k
 unfold laws_FnSchemaValid.f
 repeat' first
   | (with_reducible exact impl_SchemaValid.mono _ _ _)
   | (with_reducible exact laws_alive.mono _)
   | (with_reducible exact spec_DrawSchemaValid.mono _ _)
   | (with_reducible exact spec_SchemaValid.mono _ _ _)
   | (with_reducible exact LeO.refl _)
   | (with_reducible exact LeO.none _)
   | (with_reducible refine LeO.ite ?_ ?_)
   | (with_reducible refine LeO.bind ?_ (fun _ => ?_))
   | exact impl_SchemaValid.mono _ _ _
   | exact laws_alive.mono _
   | exact spec_DrawSchemaValid.mono _ _
   | exact spec_SchemaValid.mono _ _ _
   | exact LeO.none _
   | refine LeO.ite ?_ ?_
   | refine LeO.bind ?_ (fun _ => ?_)
def laws_FnSchemaValid.T7 : Bool × List (List Nat × List Nat) := (true, [([], []), ([0], [0]), ([], []), ([], []), ([3], [3]), ([2, 4], [2, 4]), ([], []), ([6], [6]), ([5, 7, 5], [5, 7]), ([1, 8], [1, 8]), ([], []), ([10, 9, 8, 0, 1, 2, 3, 4, 5, 6, 7, 8, 9, 10], [9, 10])])
def laws_FnSchemaValid.B7 : List Nat := [0, 1, 0, 0, 8, 28, 0, 64, 252, 511, 0, 2047]
theorem laws_FnSchemaValid.tab7 : rtab .any (opsOf Try.f3 7) = laws_FnSchemaValid.T7 := by kernel_rfl
theorem laws_FnSchemaValid.bits7 : waitsOk laws_FnSchemaValid.T7.2 laws_FnSchemaValid.B7 = true := by kernel_rfl
abbrev laws_FnSchemaValid.m0 : Array Bool := #[false, false, false, false, false, false, false, false, false, false, false, false]
abbrev laws_FnSchemaValid.m1 : Array Bool := #[true, false, false, false, false, false, false, false, false, false, false, false]
abbrev laws_FnSchemaValid.m2 : Array Bool := #[true, false, false, true, false, false, false, false, false, false, false, false]
abbrev laws_FnSchemaValid.m3 : Array Bool := #[true, false, false, true, false, false, true, false, false, false, false, false]
abbrev laws_FnSchemaValid.m4 : Array Bool := #[true, true, false, true, false, false, true, false, false, false, false, false]
abbrev laws_FnSchemaValid.m5 : Array Bool := #[true, true, false, true, true, false, true, false, false, false, false, false]
abbrev laws_FnSchemaValid.m6 : Array Bool := #[true, true, false, true, true, false, true, true, false, false, false, false]
abbrev laws_FnSchemaValid.m7 : Array Bool := #[true, true, true, true, true, true, true, true, true, true, true, false]
abbrev laws_FnSchemaValid.m8 : Array Bool := #[true, true, true, true, true, false, true, true, false, false, false, false]
abbrev laws_FnSchemaValid.m9 : Array Bool := #[true, true, false, true, true, false, true, true, false, false, true, false]
abbrev laws_FnSchemaValid.m10 : Array Bool := #[true, true, true, true, true, true, true, true, false, false, false, false]
abbrev laws_FnSchemaValid.m11 : Array Bool := #[true, true, true, true, true, false, true, true, false, false, true, false]
abbrev laws_FnSchemaValid.m12 : Array Bool := #[true, true, true, true, true, true, true, true, true, false, false, false]
abbrev laws_FnSchemaValid.m13 : Array Bool := #[true, true, true, true, true, true, true, true, false, false, true, false]
abbrev laws_FnSchemaValid.m14 : Array Bool := #[true, true, true, true, true, true, true, true, true, true, false, false]
abbrev laws_FnSchemaValid.m15 : Array Bool := #[true, true, true, true, true, true, true, true, true, false, true, false]
abbrev laws_FnSchemaValid.m16 : Array Bool := #[true, true, true, true, true, true, true, true, true, true, true, true]
set_option maxHeartbeats 8000000 in
set_option maxRecDepth 100000 in
theorem laws_FnSchemaValid.calls (k : Nat) (A0 : Option Addr) (c0 : Nat) (l0 : List Int) (r : Bool) (w : World) (hr0 : Kd.C (Kd.int .u8) w A0 l0.length l0) (hc0 : l0.length ≤ c0) (h : laws_FnSchemaValid.f k l0 = some r) :
  Calls Try.prog 3 #[.slice A0 l0.length c0] w fun e w' => e = .returned (.bool r) ∧ Below w.heap.size w w' := by
 have hu25 := Try.underlying25
 have HR0 := Aside0.mk hr0
 have HC0 := Aside0.mk hc0
 clear hr0 hc0
 have HB := Aside0.mk (Below.refl w.heap.size w)
 have H : (if (l0.length : Int) > 1048576 then (some true) else ((spec_DrawSchemaValid.f k l0).bind fun bt187 => ((impl_SchemaValid.f k bt187.1 bt187.2).bind fun t194 => ((spec_SchemaValid.f k bt187.1 bt187.2).bind fun t195 => (if (t194 != t195) = true then (some false) else ((some (([] : List (S83)) : List (S83))).bind fun y196 => (if y196.length + bt187.2.length < 5864062014805 then ((some (y196 ++ bt187.2 : List (S83))).bind fun y199 => (if y199.length + bt187.2.length < 5864062014805 then ((impl_SchemaValid.f k ([] : List (S83)) ([] : List (S83))).bind fun t206 => (if t206 = true then (if (bt187.2.length : Int) = 0 then ((laws_alive.f k).bind fun t207 => (some t207)) else ((impl_SchemaValid.f k bt187.1 (y199 ++ bt187.2)).bind fun t208 => (if t208 = true then (some false) else ((laws_alive.f k).bind fun t209 => (some t209))))) else (some false))) else (none))) else (none)))))))) = some r := h
 clear h
 by_cases c2 : (l0.length : Int) > 1048576
 ·
  rw [if_pos c2] at H
  have c2b0 : decide (1048576 < (l0.length : Int)) = true := decide_eq_true c2
  have c2b1 : decide (1048576 < l0.length) = true := decide_eq_true (by omega)
  clear c2
  obtain rfl := Option.some.inj H
  go_enter Try.func3, Try.ntmps3
  go_wp2
  go_ret
  exact ⟨by first | rfl | (simp [errW_none, errW_some] <;> rfl) | (simp [*, errW_none, errW_some] <;> rfl), by exact bw HB.out⟩
 ·
  rw [if_neg c2] at H
  have c2b0 : decide (1048576 < (l0.length : Int)) = false := decide_eq_false c2
  have c2b1 : decide (1048576 < l0.length) = false := decide_eq_false (by omega)
  clear c2
  replace H := Option.bind_eq_some_iff.mp H
  obtain ⟨⟨t187, t190⟩, A30, H⟩ := H
  replace H : ((impl_SchemaValid.f k t187 t190).bind fun t194 => ((spec_SchemaValid.f k t187 t190).bind fun t195 => (if (t194 != t195) = true then (some false) else ((some (([] : List (S83)) : List (S83))).bind fun y196 => (if y196.length + t190.length < 5864062014805 then ((some (y196 ++ t190 : List (S83))).bind fun y199 => (if y199.length + t190.length < 5864062014805 then ((impl_SchemaValid.f k ([] : List (S83)) ([] : List (S83))).bind fun t206 => (if t206 = true then (if (t190.length : Int) = 0 then ((laws_alive.f k).bind fun t207 => (some t207)) else ((impl_SchemaValid.f k t187 (y199 ++ t190)).bind fun t208 => (if t208 = true then (some false) else ((laws_alive.f k).bind fun t209 => (some t209))))) else (some false))) else (none))) else (none)))))) = some r := H
  have A3 := Aside0.mk A30
  clear A30
  replace H := Option.bind_eq_some_iff.mp H
  obtain ⟨t194, A40, H⟩ := H
  replace H : ((spec_SchemaValid.f k t187 t190).bind fun t195 => (if (t194 != t195) = true then (some false) else ((some (([] : List (S83)) : List (S83))).bind fun y196 => (if y196.length + t190.length < 5864062014805 then ((some (y196 ++ t190 : List (S83))).bind fun y199 => (if y199.length + t190.length < 5864062014805 then ((impl_SchemaValid.f k ([] : List (S83)) ([] : List (S83))).bind fun t206 => (if t206 = true then (if (t190.length : Int) = 0 then ((laws_alive.f k).bind fun t207 => (some t207)) else ((impl_SchemaValid.f k t187 (y199 ++ t190)).bind fun t208 => (if t208 = true then (some false) else ((laws_alive.f k).bind fun t209 => (some t209))))) else (some false))) else (none))) else (none))))) = some r := H
  have A4 := Aside0.mk A40
  clear A40
  replace H := Option.bind_eq_some_iff.mp H
  obtain ⟨t195, A50, H⟩ := H
  replace H : (if (t194 != t195) = true then (some false) else ((some (([] : List (S83)) : List (S83))).bind fun y196 => (if y196.length + t190.length < 5864062014805 then ((some (y196 ++ t190 : List (S83))).bind fun y199 => (if y199.length + t190.length < 5864062014805 then ((impl_SchemaValid.f k ([] : List (S83)) ([] : List (S83))).bind fun t206 => (if t206 = true then (if (t190.length : Int) = 0 then ((laws_alive.f k).bind fun t207 => (some t207)) else ((impl_SchemaValid.f k t187 (y199 ++ t190)).bind fun t208 => (if t208 = true then (some false) else ((laws_alive.f k).bind fun t209 => (some t209))))) else (some false))) else (none))) else (none)))) = some r := H
  have A5 := Aside0.mk A50
  clear A50
  have HC6 := Aside0.mk H
  clear H
  go_enter Try.func3, Try.ntmps3
  go_upto_if 16 with (first | ((with_reducible refine gate_callee (f := 11) rfl ?_); refine gl (some 10) Try.func11 #[.slice A0 l0.length c0] ?_; (with_reducible refine (spec_DrawSchemaValid.calls k _ _ l0 t187 t190 _ ?side1 ?side2 A3.out).mono ?_); (case side1 => repeat (first | exact HR0.out | (with_reducible refine Kd.C_alloc ?_ _) | (with_reducible refine Kd.C_drewN ?_ _) | (with_reducible refine Kd.C_drew ?_))); (case side2 => exact HC0.out); rintro e w7 ⟨v188, v191, rfl, ho0, ho1, hb⟩; refine ⟨_, rfl, ?_⟩; have n0_ := Aside0.mk (Kd.Q_lower ho0 (below_size (by exact bw HB.out))); have n1_ := Aside0.mk (Kd.R_lower ho1 (below_size (by exact bw HB.out))); have n2_ := Aside0.mk (below_step (by exact bw HB.out) hb); clear HB; have HO189 := n0_; have HO192 := n1_; have HB := n2_; clear n0_ n1_ n2_; (try clear hb); (try clear hb2); (try clear hk); (try clear hi); (try clear ho0); (try clear ho1)) | ((with_reducible refine gate_dst (N := 3) rfl ?_); (try (refine gate_guard (by rfl) ?_; dsimp only)); refine box_event ?hg (N := 3) ?hd (cs := #[.slice none 0 0, .slice none 0 0]) (t := 25) ?hr ?_; (case hd => rfl); (case hg => rfl); (case hr => first | (go_simp; done) | (go_simp; rfl)); intro gb193 hg w8 hbox hb; have n0_ := Aside0.mk (Kd.Q_below (by exact Kd.xQ HO189.out) hb); have n1_ := Aside0.mk (Kd.R_below (by exact Kd.xR HO192.out) hb); have n2_ := Aside0.mk (below_step (by exact bw HB.out) hb); have n3_ := Aside0.mk (hbox); have n4_ := Aside0.mk ((by rw [hg]; exact (below_size (by exact bw HB.out)) : w.heap.size ≤ gb193)); have n5_ := Aside0.mk ((by rw [hg]; exact (below_size (by exact bw HB.out)) : w.heap.size ≤ gb193)); clear HO189; clear HO192; clear HB; have HO189 := n0_; have HO192 := n1_; have HB := n2_; have BK193 := n3_; have GW193 := n4_; have GE193 := n5_; clear n0_ n1_ n2_ n3_ n4_ n5_; clear hb hbox hg; obtain ⟨Ao9, co9, eo9, _⟩ := Kd.Q_slice HO189.out; subst eo9; have hcz10_0 : w8.cell? ⟨gb193, 0, none⟩ = some (.slice none 0 0) := (blk_cell BK193.out 0).trans rfl; have hcz10_1 : w8.cell? ⟨gb193, 1, none⟩ = some (.slice none 0 0) := (blk_cell BK193.out 1).trans rfl; have hfz10_0 := blk_frozen BK193.out 0; have hfz10_1 := blk_frozen BK193.out 1; obtain ⟨Ao11, co11, eo11⟩ := Kd.R_slice HO192.out; subst eo11) | ((with_reducible refine gate_store (t := 25) (p := 3) rfl ?_); refine store_event (t := 25) (p := 3) (v := ?vo_w12) (w1 := ((w8.setCell ⟨gb193, 0, none⟩ (.slice Ao9 t187.length co9)).setCell ⟨gb193, 1, none⟩ (.slice Ao11 t190.length co11))) ?hg ?ho ?hn ?hr ?_; (case ho => rfl); (case hg => rfl); (case hn => rfl); (case hr => first | (go_simp; done) | (go_simp; rfl)); intro w12 hw; have n0_ : Aside0 (Kd.Q k83 83 w12 w.heap.size (fun k_ => some k_ ≠ (.slice Ao11 t190.length co11 : Value).ownBlock) (.slice Ao9 t187.length co9) t187) := ⟨(by rw [hw]; exact (by (with_reducible repeat (first | apply Kd.Q_alloc | apply Kd.Q_drewN | apply Kd.Q_drew)); exact Kd.Q_mono (Kd.Q_far (p := ⟨gb193, 1, none⟩) (Kd.Q_far (p := ⟨gb193, 0, none⟩) (Kd.Q_types HO189.out BK193.out (by decide)) (fun _ hk => hk.2) (.slice Ao9 t187.length co9)) (fun _ hk => hk.2) (.slice Ao11 t190.length co11)) (fun _ hk => hk.1)))⟩; have n1_ : Aside0 (Kd.R k83 83 w12 w.heap.size (fun k_ => some k_ ≠ (.slice Ao9 t187.length co9 : Value).ownBlock) (.slice Ao11 t190.length co11) t190) := ⟨(by rw [hw]; exact (by (with_reducible repeat (first | apply Kd.R_alloc | apply Kd.R_drewN | apply Kd.R_drew)); exact Kd.R_mono (Kd.R_far (p := ⟨gb193, 1, none⟩) (Kd.R_far (p := ⟨gb193, 0, none⟩) (Kd.R_types HO192.out BK193.out (by decide)) (fun _ hk => hk.2) (.slice Ao9 t187.length co9)) (fun _ hk => hk.2) (.slice Ao11 t190.length co11)) (fun _ hk => hk.1)))⟩; have n2_ : Aside0 (w12.heap[gb193]? = some (.cells #[.slice Ao9 t187.length co9, .slice Ao11 t190.length co11] 25 (0, 0))) := ⟨(by rw [hw]; exact (by (with_reducible repeat (first | refine blk_drewN ?_ _ | refine blk_drew ?_ | refine blk_alloc ?_ _)); refine blk_put (cs := #[.slice Ao9 t187.length co9, .slice none 0 0]) ?_ 1 _ rfl; (with_reducible repeat (first | refine blk_drewN ?_ _ | refine blk_drew ?_ | refine blk_alloc ?_ _)); refine blk_put (cs := #[.slice none 0 0, .slice none 0 0]) ?_ 0 _ rfl; exact bk BK193.out))⟩; have n3_ : Aside0 (Below w.heap.size w w12) := ⟨(by rw [hw]; exact (by exact bw HB.out))⟩; clear hw; clear HO189; clear HO192; clear BK193; clear HB; have HO189 := n0_; have HO192 := n1_; have BK193 := n2_; have HB := n3_; clear n0_ n1_ n2_ n3_; have hcz13_0 : w12.cell? ⟨gb193, 0, none⟩ = some (.slice Ao9 t187.length co9) := (blk_cell BK193.out 0).trans rfl; have hcz13_1 : w12.cell? ⟨gb193, 1, none⟩ = some (.slice Ao11 t190.length co11) := (blk_cell BK193.out 1).trans rfl; have hfz13_0 := blk_frozen BK193.out 0; have hfz13_1 := blk_frozen BK193.out 1) | ((with_reducible refine gate_callee (f := 12) rfl ?_); refine gl (some 12) Try.func12 #[.agg #[.slice Ao9 t187.length co9, .slice Ao11 t190.length co11]] ?_; (with_reducible refine (impl_SchemaValid.calls k (fun k_ => some k_ = (.slice Ao9 t187.length co9 : Value).ownBlock) _ _ t187 (fun k_ => some k_ = (.slice Ao11 t190.length co11 : Value).ownBlock) _ _ t190 t194 _ ?side1 ?side2 A4.out).mono ?_); (case side1 => exact Kd.Q_V (Kd.Q_tight rfl (Kd.Q_types (HO189.out) BK193.out (by decide)))); (case side2 => exact Kd.R_V (Kd.R_tight rfl (Kd.R_types (HO192.out) BK193.out (by decide)))); rintro e w14 ⟨rfl, hb⟩; refine ⟨_, rfl, ?_⟩; have n0_ := Aside0.mk (Kd.Q_below (by exact Kd.xQ HO189.out) hb); have n1_ := Aside0.mk (Kd.R_below (by exact Kd.xR HO192.out) hb); have n2_ := Aside0.mk (blk_below (g := gb193) (o := .cells #[.slice Ao9 t187.length co9, .slice Ao11 t190.length co11] 25 (0, 0)) (by exact bk BK193.out) hb); have n3_ := Aside0.mk (below_step (by exact bw HB.out) hb); clear HO189; clear HO192; clear BK193; clear HB; have HO189 := n0_; have HO192 := n1_; have BK193 := n2_; have HB := n3_; clear n0_ n1_ n2_ n3_; (try clear hb); (try clear hb2); (try clear hk); (try clear hi); have hcz15_0 : w14.cell? ⟨gb193, 0, none⟩ = some (.slice Ao9 t187.length co9) := (blk_cell BK193.out 0).trans rfl; have hcz15_1 : w14.cell? ⟨gb193, 1, none⟩ = some (.slice Ao11 t190.length co11) := (blk_cell BK193.out 1).trans rfl; have hfz15_0 := blk_frozen BK193.out 0; have hfz15_1 := blk_frozen BK193.out 1) | ((with_reducible refine gate_callee (f := 13) rfl ?_); refine gl (some 15) Try.func13 #[.agg #[.slice Ao9 t187.length co9, .slice Ao11 t190.length co11]] ?_; (with_reducible refine (spec_SchemaValid.calls k _ _ t187 _ _ t190 t195 _ ?side1 ?side2 ?side3 ?side4 A5.out).mono ?_); (case side1 => repeat (first | exact (Kd.Q_reads' HO189.out).2.2 | (with_reducible refine Kd.C_alloc ?_ _) | (with_reducible refine Kd.C_drewN ?_ _) | (with_reducible refine Kd.C_drew ?_))); (case side2 => exact (Kd.Q_reads' HO189.out).2.1); (case side3 => repeat (first | exact (Kd.R_reads' HO192.out).2.2 | (with_reducible refine Kd.C_alloc ?_ _) | (with_reducible refine Kd.C_drewN ?_ _) | (with_reducible refine Kd.C_drew ?_))); (case side4 => exact (Kd.R_reads' HO192.out).2.1); rintro e w16 ⟨rfl, hb⟩; refine ⟨_, rfl, ?_⟩; have n0_ := Aside0.mk (Kd.Q_below (by exact Kd.xQ HO189.out) hb); have n1_ := Aside0.mk (Kd.R_below (by exact Kd.xR HO192.out) hb); have n2_ := Aside0.mk (blk_below (g := gb193) (o := .cells #[.slice Ao9 t187.length co9, .slice Ao11 t190.length co11] 25 (0, 0)) (by exact bk BK193.out) hb); have n3_ := Aside0.mk (below_step (by exact bw HB.out) hb); clear HO189; clear HO192; clear BK193; clear HB; have HO189 := n0_; have HO192 := n1_; have BK193 := n2_; have HB := n3_; clear n0_ n1_ n2_ n3_; (try clear hb); (try clear hb2); (try clear hk); (try clear hi)))
  (try simp only [Act.put, List.setIfInBounds_toArray, List.set_cons_zero, List.set_cons_succ])
  have H := HC6.out
  clear HC6
  by_cases c17 : (t194 != t195) = true
  ·
   rw [if_pos c17] at H
   have c17b0 : (t194 != t195) = true := c17
   (try (have c17b1 : decide (t194 = t195) = false := by simpa using c17))
   (try (have c17b2 : (t194 == t195) = false := by simpa using c17))
   (try (have c17b3 : ¬ (t194 = t195) := by simpa using c17))
   clear c17
   (first | rw [c17b0] | (simp only [i64_w, i32_w]; rw [c17b0]) | rw [c17b2] | rw [c17b1] | skip)
   obtain rfl := Option.some.inj H
   go_wp2
   go_ret
   exact ⟨by first | rfl | (simp [errW_none, errW_some] <;> rfl) | (simp [*, errW_none, errW_some] <;> rfl), by exact bw HB.out⟩
  ·
   rw [if_neg c17] at H
   have c17b0 : (t194 != t195) = false := by simpa using c17
   (try (have c17b1 : decide (t194 = t195) = true := by simpa using c17))
   (try (have c17b2 : (t194 == t195) = true := by simpa using c17))
   clear c17
   (first | rw [c17b0] | (simp only [i64_w, i32_w]; rw [c17b0]) | rw [c17b2] | rw [c17b1] | skip)
   obtain ⟨y196, hy196⟩ : ∃ y_ : List (S83), y_ = (([] : List (S83))) := ⟨_, rfl⟩
   replace H : (if y196.length + t190.length < 5864062014805 then ((some (y196 ++ t190 : List (S83))).bind fun y199 => (if y199.length + t190.length < 5864062014805 then ((impl_SchemaValid.f k ([] : List (S83)) ([] : List (S83))).bind fun t206 => (if t206 = true then (if (t190.length : Int) = 0 then ((laws_alive.f k).bind fun t207 => (some t207)) else ((impl_SchemaValid.f k t187 (y199 ++ t190)).bind fun t208 => (if t208 = true then (some false) else ((laws_alive.f k).bind fun t209 => (some t209))))) else (some false))) else (none))) else (none)) = some r := by first | (rw [hy196]; with_reducible exact H) | (have H2_ := (Option.bind_some _ _).symm.trans H; rw [hy196]; with_reducible exact H2_) | (have H2_ := (Option.bind_some _ _).symm.trans H; with_reducible exact H2_) | with_reducible exact H | (rw [hy196]; exact H) | exact H
   have Ny196 := Aside0.mk hy196
   clear hy196
   by_cases c18 : y196.length + t190.length < 5864062014805
   ·
    rw [if_pos c18] at H
    have LMc18 := Aside0.mk c18
    clear c18
    obtain ⟨y199, hy199⟩ : ∃ y_ : List (S83), y_ = (y196 ++ t190) := ⟨_, rfl⟩
    replace H : (if y199.length + t190.length < 5864062014805 then ((impl_SchemaValid.f k ([] : List (S83)) ([] : List (S83))).bind fun t206 => (if t206 = true then (if (t190.length : Int) = 0 then ((laws_alive.f k).bind fun t207 => (some t207)) else ((impl_SchemaValid.f k t187 (y199 ++ t190)).bind fun t208 => (if t208 = true then (some false) else ((laws_alive.f k).bind fun t209 => (some t209))))) else (some false))) else (none)) = some r := by first | (rw [hy199]; with_reducible exact H) | (have H2_ := (Option.bind_some _ _).symm.trans H; rw [hy199]; with_reducible exact H2_) | (have H2_ := (Option.bind_some _ _).symm.trans H; with_reducible exact H2_) | with_reducible exact H | (rw [hy199]; exact H) | exact H
    have Ny199 := Aside0.mk hy199
    clear hy199
    by_cases c19 : y199.length + t190.length < 5864062014805
    ·
     rw [if_pos c19] at H
     have LMc19 := Aside0.mk c19
     clear c19
     obtain ⟨y202, hy202⟩ : ∃ y_ : List (S83), y_ = (y199 ++ t190) := ⟨_, rfl⟩
     replace H : ((impl_SchemaValid.f k ([] : List (S83)) ([] : List (S83))).bind fun t206 => (if t206 = true then (if (t190.length : Int) = 0 then ((laws_alive.f k).bind fun t207 => (some t207)) else ((impl_SchemaValid.f k t187 y202).bind fun t208 => (if t208 = true then (some false) else ((laws_alive.f k).bind fun t209 => (some t209))))) else (some false))) = some r := by first | (rw [hy202]; with_reducible exact H) | (have H2_ := (Option.bind_some _ _).symm.trans H; rw [hy202]; with_reducible exact H2_) | (have H2_ := (Option.bind_some _ _).symm.trans H; with_reducible exact H2_) | with_reducible exact H | (rw [hy202]; exact H) | exact H
     have Ny202 := Aside0.mk hy202
     clear hy202
     replace H := Option.bind_eq_some_iff.mp H
     obtain ⟨t206, A200, H⟩ := H
     replace H : (if t206 = true then (if (t190.length : Int) = 0 then ((laws_alive.f k).bind fun t207 => (some t207)) else ((impl_SchemaValid.f k t187 y202).bind fun t208 => (if t208 = true then (some false) else ((laws_alive.f k).bind fun t209 => (some t209))))) else (some false)) = some r := H
     have A20 := Aside0.mk A200
     clear A200
     by_cases c21 : t206 = true
     ·
      subst c21
      have H1 : (if (t190.length : Int) = 0 then ((laws_alive.f k).bind fun t207 => (some t207)) else ((impl_SchemaValid.f k t187 y202).bind fun t208 => (if t208 = true then (some false) else ((laws_alive.f k).bind fun t209 => (some t209))))) = some r := by rw [if_pos rfl] at H; exact H
      clear H
      have H := H1
      clear H1
      by_cases c22 : (t190.length : Int) = 0
      ·
       rw [if_pos c22] at H
       have c22b0 : ((t190.length : Int) == 0) = true := beq_iff_eq.mpr c22
       have c22b1 : ((t190.length : Int) != 0) = false := bne_eq_false_iff_eq.mpr c22
       clear c22
       replace H := Option.bind_eq_some_iff.mp H
       obtain ⟨t207, A230, H⟩ := H
       replace H : (some t207) = some r := H
       have A23 := Aside0.mk A230
       clear A230
       obtain rfl := Option.some.inj H
       try go_wp2
       have n0_ := Aside0.mk (Kd.Q_drew HO189.out)
       have n1_ := Aside0.mk (Kd.R_drew HO192.out)
       have n2_ := Aside0.mk (blk_drew BK193.out)
       have n3_ := Aside0.mk (below_drew1 HB.out)
       clear HO189
       clear HO192
       clear BK193
       clear HB
       have HO189 := n0_
       have HO192 := n1_
       have BK193 := n2_
       have HB := n3_
       clear n0_ n1_ n2_ n3_
       refine start_ (n := 12) (S := fun w' => w'.cell? ⟨gb193, 0, none⟩ = some (.slice Ao9 t187.length co9) ∧ w'.cell? ⟨gb193, 1, none⟩ = some (.slice Ao11 t190.length co11)) (ds := []) laws_FnSchemaValid.m0 (by kernel_rfl) rfl rfl ⟨(blk_cell BK193.out 0).trans rfl, (blk_cell BK193.out 1).trans rfl⟩ (fun hHeld => ?_); refine with_tabW laws_FnSchemaValid.tab7 laws_FnSchemaValid.bits7 (fun HT_ HW_ => ?_)
       generalize w16.drew = w24 at HO189 HO192 BK193 HB hHeld ⊢
       refine pure_ (i := 0) (N := some 17) (v := ?_) (a' := ?_) laws_FnSchemaValid.m1 rfl rfl (any_of HT_.out (by kernel_rfl)) (fun _ _ _ h => h) (Or.inl ⟨by rfl, ?_⟩) ?_ ?_
       rotate_left
       ·
        intro w'
        go_simp
        with_reducible rfl
       rotate_left
       ·
        simp only [Act.put, List.setIfInBounds_toArray, List.set_cons_zero, List.set_cons_succ, i64_w, i32_w]
        rfl
       refine pure_ (i := 3) (N := some 20) (v := ?_) (a' := ?_) laws_FnSchemaValid.m2 rfl rfl (any_of HT_.out (by kernel_rfl)) (fun _ _ _ h => h) (Or.inl ⟨by rfl, ?_⟩) ?_ ?_
       rotate_left
       ·
        intro w'
        go_simp
        with_reducible rfl
       rotate_left
       ·
        simp only [Act.put, List.setIfInBounds_toArray, List.set_cons_zero, List.set_cons_succ, i64_w, i32_w]
        rfl
       refine pure_ (i := 6) (N := some 23) (v := ?_) (a' := ?_) laws_FnSchemaValid.m3 rfl rfl (any_of HT_.out (by kernel_rfl)) (fun _ _ _ h => h) (Or.inl ⟨by rfl, ?_⟩) ?_ ?_
       rotate_left
       ·
        intro w'
        go_simp
        with_reducible rfl
       rotate_left
       ·
        simp only [Act.put, List.setIfInBounds_toArray, List.set_cons_zero, List.set_cons_succ, i64_w, i32_w]
        rfl
       refine take_ (i := 1) (N := some 18) (v := ?_) (a' := ?_) laws_FnSchemaValid.m4 rfl rfl (take_ofW HT_.out HW_.out (by kernel_rfl)) (fun _ _ _ h => h) (Or.inl ⟨by rfl, ?_⟩) hHeld ?_ ?_
       rotate_left
       ·
        rintro w' ⟨s0, s1⟩
        go_simp
        with_reducible rfl
       rotate_left
       ·
        simp only [Act.put, List.setIfInBounds_toArray, List.set_cons_zero, List.set_cons_succ, i64_w, i32_w]
        rfl
       refine take_ (i := 4) (N := some 21) (v := ?_) (a' := ?_) laws_FnSchemaValid.m5 rfl rfl (take_ofW HT_.out HW_.out (by kernel_rfl)) (fun _ _ _ h => h) (Or.inl ⟨by rfl, ?_⟩) hHeld ?_ ?_
       rotate_left
       ·
        rintro w' ⟨s0, s1⟩
        go_simp
        with_reducible rfl
       rotate_left
       ·
        simp only [Act.put, List.setIfInBounds_toArray, List.set_cons_zero, List.set_cons_succ, i64_w, i32_w]
        rfl
       refine take_ (i := 7) (N := some 24) (v := ?_) (a' := ?_) laws_FnSchemaValid.m6 rfl rfl (take_ofW HT_.out HW_.out (by kernel_rfl)) (fun _ _ _ h => h) (Or.inl ⟨by rfl, ?_⟩) hHeld ?_ ?_
       rotate_left
       ·
        rintro w' ⟨s0, s1⟩
        go_simp
        with_reducible rfl
       rotate_left
       ·
        simp only [Act.put, List.setIfInBounds_toArray, List.set_cons_zero, List.set_cons_succ, i64_w, i32_w]
        rfl
       refine join_ (σ := Value × Value × Value × Nat) 1 laws_FnSchemaValid.m7 (fun s_ => [(19, s_.1), (22, s_.2.1), (25, s_.2.2.1), (5, .pointer (some ⟨s_.2.2.2, 0, none⟩)), (26, .agg #[.slice Ao9 t187.length co9, s_.2.2.1])]) (fun s_ w' => (w'.cell? ⟨gb193, 0, none⟩ = some (.slice Ao9 t187.length co9) ∧ w'.cell? ⟨gb193, 1, none⟩ = some (.slice Ao11 t190.length co11)) ∧ (Kd.Q k83 83 w' w.heap.size (fun k_ => some k_ ≠ (.slice Ao11 t190.length co11 : Value).ownBlock ∧ some k_ ≠ (s_.2.2.1 : Value).ownBlock) (.slice Ao9 t187.length co9) t187) ∧ (Kd.R k83 83 w' w.heap.size (fun k_ => some k_ ≠ (.slice Ao9 t187.length co9 : Value).ownBlock ∧ some k_ ≠ (s_.2.2.1 : Value).ownBlock) (.slice Ao11 t190.length co11) t190) ∧ (Kd.R k83 83 w' w.heap.size (fun k_ => some k_ ≠ (.slice Ao9 t187.length co9 : Value).ownBlock ∧ some k_ ≠ (.slice Ao11 t190.length co11 : Value).ownBlock) s_.2.2.1 y202) ∧ (w'.heap[gb193]? = some (.cells #[.slice Ao9 t187.length co9, .slice Ao11 t190.length co11] 25 (0, 0))) ∧ (w'.heap[s_.2.2.2]? = some (.cells #[.slice none 0 0, .slice none 0 0] 25 (0, 0))) ∧ (w.heap.size ≤ s_.2.2.2) ∧ (w.heap.size ≤ s_.2.2.2) ∧ (gb193 ≠ s_.2.2.2) ∧ (s_.2.2.2 ≠ gb193) ∧ (Below w.heap.size w w')) ?_ ?_
       rotate_left
       ·
        intro hCont
        refine two_ (i := 2) (j := 10) (Ni := some 19) (Nj := some 5) laws_FnSchemaValid.m8 laws_FnSchemaValid.m9 rfl rfl rfl rfl (two_of HT_.out (by kernel_rfl)) (by decide) (by decide) (fun K hK => ?_) (fun K hK => ?_)
        ·
         skip
         refine Kd.R_lit_step k83 _ 83 ?hg (N := 19) ?hd (xs := ([] : List (S83))) (inner := []) (ok := fun _ => True) (okp := fun _ => True) ?hr ?hp (fun _ hk => hk) trivial (Below.refl _ _) (Nat.le_refl _) (by simp) ?_; (case hd => rfl); (case hg => rfl); (case hr => first | (go_simp; done) | (go_simp; rfl)); (case hp => exact (Reps.none _ _))
         intro v197 w25 ho26 hb hg_ hnew_
         clear hg_ hnew_
         (first | rw [← Ny196.out] at ho26 | (simp only [Int.reduceToNat] at ho26; rw [← Ny196.out] at ho26))
         have n0_ := Aside0.mk (Kd.Q_elder' (by exact Kd.xQ HO189.out) (Kd.R_base ho26) hb)
         have n1_ := Aside0.mk (Kd.R_elder' (by exact Kd.xR HO192.out) (Kd.R_base ho26) hb)
         have n2_ := Aside0.mk (Kd.R_lower (Kd.R_new' (Kd.R_new' ho26 (Kd.Q_lt (by exact Kd.xQ HO189.out))) (Kd.R_lt (by exact Kd.xR HO192.out))) (below_size (by exact bw HB.out)))
         have n3_ := Aside0.mk (blk_below (g := gb193) (o := .cells #[.slice Ao9 t187.length co9, .slice Ao11 t190.length co11] 25 (0, 0)) (by exact bk BK193.out) hb)
         have n4_ := Aside0.mk (below_step (by exact bw HB.out) hb)
         clear HO189
         clear HO192
         clear BK193
         clear HB
         have HO189 := n0_
         have HO192 := n1_
         have HO198 := n2_
         have BK193 := n3_
         have HB := n4_
         clear n0_ n1_ n2_ n3_ n4_
         clear hb ho26
         refine hK.out _ _ ⟨(blk_cell BK193.out 0).trans rfl, (blk_cell BK193.out 1).trans rfl⟩ (fun hHeld => ?_)
         clear hK K
         refine norm_ (a' := ?_) ?_ ?_
         rotate_left
         ·
          show Act.put _ (some 19) _ = _
          simp only [Act.put, List.setIfInBounds_toArray, List.set_cons_zero, List.set_cons_succ, i64_w, i32_w]
          rfl
         refine two_ (i := 5) (j := 10) (Ni := some 22) (Nj := some 5) laws_FnSchemaValid.m10 laws_FnSchemaValid.m11 rfl rfl rfl rfl (two_of HT_.out (by kernel_rfl)) (by decide) (by decide) (fun K hK => ?_) (fun K hK => ?_)
         ·
          skip
          refine Kd.R_append_rows_step k83 (w0 := w) w.heap.size (by rfl) (.tmp 19) (.tmp 21) 23 83 (.agg #[(.string ⟨#[]⟩), (.int .i64 0)]) 24 rfl Try.underlying23 info83 rfl (by decide) (by omega) v197 y196 t190 _ _ _ (fun k_ => some k_ ≠ (.slice Ao9 t187.length co9 : Value).ownBlock ∧ some k_ ≠ (.slice Ao11 t190.length co11 : Value).ownBlock) (fun _ => False) rfl rfl ?aO ?aR (fun _ _ h => h) (fun _ h => h.elim) ?aF ?aB ?aS ?aL ?_
          (case aR => repeat (first | exact (Kd.R_reads' HO192.out).2.2 | (with_reducible refine Kd.C_alloc ?_ _) | (with_reducible refine Kd.C_drewN ?_ _) | (with_reducible refine Kd.C_drew ?_)))
          (case aB => exact (by exact bw HB.out))
          (case aF => exact (fun k_ hk => ⟨Kd.fresh' (Kd.Q_lt (by exact Kd.xQ HO189.out)) k_ hk, Kd.fresh' (Kd.R_lt (by exact Kd.xR HO192.out)) k_ hk⟩))
          (case aO => exact (by (with_reducible repeat (first | apply Kd.R_alloc | apply Kd.R_drewN | apply Kd.R_drew)); exact Kd.R_mono HO198.out (fun _ hk => okp hk)))
          (case aS => exact (below_size (by exact bw HB.out)))
          (case aL => have := LMc18.out; omega)
          intro v200 w27 ho hb hg hat
          rw [← Ny199.out] at ho
          have n0_ := Aside0.mk (Kd.Q_after (ok := (fun k_ => some k_ ≠ (.slice Ao11 t190.length co11 : Value).ownBlock)) (by exact Kd.xQ HO189.out) hg hat)
          have n1_ := Aside0.mk (Kd.R_after (ok := (fun k_ => some k_ ≠ (.slice Ao9 t187.length co9 : Value).ownBlock)) (by exact Kd.xR HO192.out) hg hat)
          have n2_ := Aside0.mk (blk_grown (g := gb193) (o := .cells #[.slice Ao9 t187.length co9, .slice Ao11 t190.length co11] 25 (0, 0)) (by exact bk BK193.out) hg (Kd.R_ne HO198.out BK193.out (by decide)))
          have n3_ := Aside0.mk (hb)
          have n4_ := Aside0.mk (ho)
          clear HO189
          clear HO192
          clear BK193
          clear HB
          clear HO198
          have HO189 := n0_
          have HO192 := n1_
          have BK193 := n2_
          have HB := n3_
          have HO201 := n4_
          clear n0_ n1_ n2_ n3_ n4_
          clear ho hb hg hat
          refine hK.out _ _ ⟨(blk_cell BK193.out 0).trans rfl, (blk_cell BK193.out 1).trans rfl⟩ (fun hHeld => ?_)
          clear hK K
          refine norm_ (a' := ?_) ?_ ?_
          rotate_left
          ·
           show Act.put _ (some 22) _ = _
           simp only [Act.put, List.setIfInBounds_toArray, List.set_cons_zero, List.set_cons_succ, i64_w, i32_w]
           rfl
          refine two_ (i := 8) (j := 10) (Ni := some 25) (Nj := some 5) laws_FnSchemaValid.m12 laws_FnSchemaValid.m13 rfl rfl rfl rfl (two_of HT_.out (by kernel_rfl)) (by decide) (by decide) (fun K hK => ?_) (fun K hK => ?_)
          ·
           skip
           refine Kd.R_append_rows_step k83 (w0 := w) w.heap.size (by rfl) (.tmp 22) (.tmp 24) 23 83 (.agg #[(.string ⟨#[]⟩), (.int .i64 0)]) 24 rfl Try.underlying23 info83 rfl (by decide) (by omega) v200 y199 t190 _ _ _ (fun k_ => some k_ ≠ (.slice Ao9 t187.length co9 : Value).ownBlock ∧ some k_ ≠ (.slice Ao11 t190.length co11 : Value).ownBlock) (fun _ => False) rfl rfl ?aO ?aR (fun _ _ h => h) (fun _ h => h.elim) ?aF ?aB ?aS ?aL ?_
           (case aR => repeat (first | exact (Kd.R_reads' HO192.out).2.2 | (with_reducible refine Kd.C_alloc ?_ _) | (with_reducible refine Kd.C_drewN ?_ _) | (with_reducible refine Kd.C_drew ?_)))
           (case aB => exact (by exact bw HB.out))
           (case aF => exact (fun k_ hk => ⟨Kd.fresh' (Kd.Q_lt (by exact Kd.xQ HO189.out)) k_ hk, Kd.fresh' (Kd.R_lt (by exact Kd.xR HO192.out)) k_ hk⟩))
           (case aO => exact (by exact Kd.xR HO201.out))
           (case aS => exact (below_size (by exact bw HB.out)))
           (case aL => have := LMc19.out; omega)
           intro v203 w28 ho hb hg hat
           rw [← Ny202.out] at ho
           have n0_ := Aside0.mk (Kd.Q_after (ok := (fun k_ => some k_ ≠ (.slice Ao11 t190.length co11 : Value).ownBlock)) (by exact Kd.xQ HO189.out) hg hat)
           have n1_ := Aside0.mk (Kd.R_after (ok := (fun k_ => some k_ ≠ (.slice Ao9 t187.length co9 : Value).ownBlock)) (by exact Kd.xR HO192.out) hg hat)
           have n2_ := Aside0.mk (blk_grown (g := gb193) (o := .cells #[.slice Ao9 t187.length co9, .slice Ao11 t190.length co11] 25 (0, 0)) (by exact bk BK193.out) hg (Kd.R_ne HO201.out BK193.out (by decide)))
           have n3_ := Aside0.mk (hb)
           have n4_ := Aside0.mk (ho)
           clear HO189
           clear HO192
           clear BK193
           clear HB
           clear HO201
           have HO189 := n0_
           have HO192 := n1_
           have BK193 := n2_
           have HB := n3_
           have HO204 := n4_
           clear n0_ n1_ n2_ n3_ n4_
           clear ho hb hg hat
           obtain ⟨Ao29, co29, eo29⟩ := Kd.R_slice HO204.out
           (first | subst eo29 | (injection eo29 with f1_ f2_ f3_; have f4_ := f1_.symm; have f5_ := f3_.symm; clear f1_ f2_ f3_; subst f4_; subst f5_))
           refine hK.out _ _ ⟨(blk_cell BK193.out 0).trans rfl, (blk_cell BK193.out 1).trans rfl⟩ (fun hHeld => ?_)
           clear hK K
           refine norm_ (a' := ?_) ?_ ?_
           rotate_left
           ·
            show Act.put _ (some 25) _ = _
            simp only [Act.put, List.setIfInBounds_toArray, List.set_cons_zero, List.set_cons_succ, i64_w, i32_w]
            rfl
           refine pure_ (i := 9) (N := some 26) (v := ?_) (a' := ?_) laws_FnSchemaValid.m14 rfl rfl (any_of HT_.out (by kernel_rfl)) (fun _ _ _ h => h) (Or.inl ⟨by rfl, ?_⟩) ?_ ?_
           rotate_left
           ·
            intro w'
            go_simp
            with_reducible rfl
           rotate_left
           ·
            simp only [Act.put, List.setIfInBounds_toArray, List.set_cons_zero, List.set_cons_succ, i64_w, i32_w]
            rfl
           refine one_ (i := 10) (N := some 5) laws_FnSchemaValid.m7 rfl rfl (one_of HT_.out (by kernel_rfl)) (by decide) (fun K hK => ?_)
           refine box_step ?hg (N := 5) ?hd (cs := #[.slice none 0 0, .slice none 0 0]) (t := 25) ?hr ?_; (case hd => rfl); (case hg => rfl); (case hr => first | (go_simp; done) | (go_simp; rfl))
           intro gb205 hg w30 hbox hb
           have n0_ := Aside0.mk (Kd.Q_below (by exact Kd.xQ HO189.out) hb)
           have n1_ := Aside0.mk (Kd.R_below (by exact Kd.xR HO192.out) hb)
           have n2_ := Aside0.mk (Kd.R_below (by exact Kd.xR HO204.out) hb)
           have n3_ := Aside0.mk (blk_below (g := gb193) (o := .cells #[.slice Ao9 t187.length co9, .slice Ao11 t190.length co11] 25 (0, 0)) (by exact bk BK193.out) hb)
           have n4_ := Aside0.mk (below_step (by exact bw HB.out) hb)
           have n5_ := Aside0.mk (hbox)
           have n6_ := Aside0.mk ((by rw [hg]; exact (below_size (by exact bw HB.out)) : w.heap.size ≤ gb205))
           have n7_ := Aside0.mk ((by rw [hg]; exact (below_size (by exact bw HB.out)) : w.heap.size ≤ gb205))
           have n8_ := Aside0.mk ((by rw [hg]; exact Nat.ne_of_lt (blk_lt (g := gb193) (o := .cells #[.slice Ao9 t187.length co9, .slice Ao11 t190.length co11] 25 (0, 0)) (by exact bk BK193.out)) : gb193 ≠ gb205))
           have n9_ := Aside0.mk ((by rw [hg]; exact Nat.ne_of_gt (blk_lt (g := gb193) (o := .cells #[.slice Ao9 t187.length co9, .slice Ao11 t190.length co11] 25 (0, 0)) (by exact bk BK193.out)) : gb205 ≠ gb193))
           clear HO189
           clear HO192
           clear HO204
           clear BK193
           clear HB
           have HO189 := n0_
           have HO192 := n1_
           have HO204 := n2_
           have BK193 := n3_
           have HB := n4_
           have BK205 := n5_
           have GW205 := n6_
           have GE205 := n7_
           have NB193_205 := n8_
           have NB205_193 := n9_
           clear n0_ n1_ n2_ n3_ n4_ n5_ n6_ n7_ n8_ n9_
           clear hb hbox hg
           refine hK.out _ _ ⟨(blk_cell BK193.out 0).trans rfl, (blk_cell BK193.out 1).trans rfl⟩ (fun hHeld => ?_)
           clear hK K
           refine norm_ (a' := ?_) ?_ ?_
           rotate_left
           ·
            show Act.put _ (some 5) _ = _
            simp only [Act.put, List.setIfInBounds_toArray, List.set_cons_zero, List.set_cons_succ, i64_w, i32_w]
            rfl
           exact norm_ (by simp only [putAll, Act.put, List.setIfInBounds_toArray, List.set_cons_zero, List.set_cons_succ]) (hCont (v197, v200, .slice Ao29 y202.length co29, gb205) _ ⟨hHeld, (by exact Kd.xQ HO189.out), (by exact Kd.xR HO192.out), (by exact Kd.xR HO204.out), (by exact bk BK193.out), (by exact bk BK205.out), GW205.out, GE205.out, NB193_205.out, NB205_193.out, (by exact bw HB.out)⟩)
          ·
           skip
           refine box_step ?hg (N := 5) ?hd (cs := #[.slice none 0 0, .slice none 0 0]) (t := 25) ?hr ?_; (case hd => rfl); (case hg => rfl); (case hr => first | (go_simp; done) | (go_simp; rfl))
           intro gb205 hg w28 hbox hb
           have n0_ := Aside0.mk (Kd.Q_below (by exact Kd.xQ HO189.out) hb)
           have n1_ := Aside0.mk (Kd.R_below (by exact Kd.xR HO192.out) hb)
           have n2_ := Aside0.mk (Kd.R_below (by exact Kd.xR HO201.out) hb)
           have n3_ := Aside0.mk (blk_below (g := gb193) (o := .cells #[.slice Ao9 t187.length co9, .slice Ao11 t190.length co11] 25 (0, 0)) (by exact bk BK193.out) hb)
           have n4_ := Aside0.mk (below_step (by exact bw HB.out) hb)
           have n5_ := Aside0.mk (hbox)
           have n6_ := Aside0.mk ((by rw [hg]; exact (below_size (by exact bw HB.out)) : w.heap.size ≤ gb205))
           have n7_ := Aside0.mk ((by rw [hg]; exact (below_size (by exact bw HB.out)) : w.heap.size ≤ gb205))
           have n8_ := Aside0.mk ((by rw [hg]; exact Nat.ne_of_lt (blk_lt (g := gb193) (o := .cells #[.slice Ao9 t187.length co9, .slice Ao11 t190.length co11] 25 (0, 0)) (by exact bk BK193.out)) : gb193 ≠ gb205))
           have n9_ := Aside0.mk ((by rw [hg]; exact Nat.ne_of_gt (blk_lt (g := gb193) (o := .cells #[.slice Ao9 t187.length co9, .slice Ao11 t190.length co11] 25 (0, 0)) (by exact bk BK193.out)) : gb205 ≠ gb193))
           clear HO189
           clear HO192
           clear HO201
           clear BK193
           clear HB
           have HO189 := n0_
           have HO192 := n1_
           have HO201 := n2_
           have BK193 := n3_
           have HB := n4_
           have BK205 := n5_
           have GW205 := n6_
           have GE205 := n7_
           have NB193_205 := n8_
           have NB205_193 := n9_
           clear n0_ n1_ n2_ n3_ n4_ n5_ n6_ n7_ n8_ n9_
           clear hb hbox hg
           refine hK.out _ _ ⟨(blk_cell BK193.out 0).trans rfl, (blk_cell BK193.out 1).trans rfl⟩ (fun hHeld => ?_)
           clear hK K
           refine norm_ (a' := ?_) ?_ ?_
           rotate_left
           ·
            show Act.put _ (some 5) _ = _
            simp only [Act.put, List.setIfInBounds_toArray, List.set_cons_zero, List.set_cons_succ, i64_w, i32_w]
            rfl
           refine one_ (i := 8) (N := some 25) laws_FnSchemaValid.m15 rfl rfl (one_of HT_.out (by kernel_rfl)) (by decide) (fun K hK => ?_)
           refine Kd.R_append_rows_step k83 (w0 := w) w.heap.size (by rfl) (.tmp 22) (.tmp 24) 23 83 (.agg #[(.string ⟨#[]⟩), (.int .i64 0)]) 24 rfl Try.underlying23 info83 rfl (by decide) (by omega) v200 y199 t190 _ _ _ (fun k_ => some k_ ≠ (.slice Ao9 t187.length co9 : Value).ownBlock ∧ some k_ ≠ (.slice Ao11 t190.length co11 : Value).ownBlock) (fun _ => False) rfl rfl ?aO ?aR (fun _ _ h => h) (fun _ h => h.elim) ?aF ?aB ?aS ?aL ?_
           (case aR => repeat (first | exact (Kd.R_reads' HO192.out).2.2 | (with_reducible refine Kd.C_alloc ?_ _) | (with_reducible refine Kd.C_drewN ?_ _) | (with_reducible refine Kd.C_drew ?_)))
           (case aB => exact (by exact bw HB.out))
           (case aF => exact (fun k_ hk => ⟨Kd.fresh' (Kd.Q_lt (by exact Kd.xQ HO189.out)) k_ hk, Kd.fresh' (Kd.R_lt (by exact Kd.xR HO192.out)) k_ hk⟩))
           (case aO => exact (by exact Kd.xR HO201.out))
           (case aS => exact (below_size (by exact bw HB.out)))
           (case aL => have := LMc19.out; omega)
           intro v203 w29 ho hb hg hat
           rw [← Ny202.out] at ho
           have n0_ := Aside0.mk (Kd.Q_after (ok := (fun k_ => some k_ ≠ (.slice Ao11 t190.length co11 : Value).ownBlock)) (by exact Kd.xQ HO189.out) hg hat)
           have n1_ := Aside0.mk (Kd.R_after (ok := (fun k_ => some k_ ≠ (.slice Ao9 t187.length co9 : Value).ownBlock)) (by exact Kd.xR HO192.out) hg hat)
           have n2_ := Aside0.mk (blk_grown (g := gb193) (o := .cells #[.slice Ao9 t187.length co9, .slice Ao11 t190.length co11] 25 (0, 0)) (by exact bk BK193.out) hg (Kd.R_ne HO201.out BK193.out (by decide)))
           have n3_ := Aside0.mk (blk_grown (g := gb205) (o := .cells #[.slice none 0 0, .slice none 0 0] 25 (0, 0)) (by exact bk BK205.out) hg (Kd.R_ne HO201.out BK205.out (by decide)))
           have n4_ := Aside0.mk (hb)
           have n5_ := Aside0.mk (ho)
           clear HO189
           clear HO192
           clear BK193
           clear BK205
           clear HB
           clear HO201
           have HO189 := n0_
           have HO192 := n1_
           have BK193 := n2_
           have BK205 := n3_
           have HB := n4_
           have HO204 := n5_
           clear n0_ n1_ n2_ n3_ n4_ n5_
           clear ho hb hg hat
           obtain ⟨Ao30, co30, eo30⟩ := Kd.R_slice HO204.out
           (first | subst eo30 | (injection eo30 with f1_ f2_ f3_; have f4_ := f1_.symm; have f5_ := f3_.symm; clear f1_ f2_ f3_; subst f4_; subst f5_))
           refine hK.out _ _ ⟨(blk_cell BK193.out 0).trans rfl, (blk_cell BK193.out 1).trans rfl⟩ (fun hHeld => ?_)
           clear hK K
           refine norm_ (a' := ?_) ?_ ?_
           rotate_left
           ·
            show Act.put _ (some 25) _ = _
            simp only [Act.put, List.setIfInBounds_toArray, List.set_cons_zero, List.set_cons_succ, i64_w, i32_w]
            rfl
           refine pure_ (i := 9) (N := some 26) (v := ?_) (a' := ?_) laws_FnSchemaValid.m7 rfl rfl (any_of HT_.out (by kernel_rfl)) (fun _ _ _ h => h) (Or.inl ⟨by rfl, ?_⟩) ?_ ?_
           rotate_left
           ·
            intro w'
            go_simp
            with_reducible rfl
           rotate_left
           ·
            simp only [Act.put, List.setIfInBounds_toArray, List.set_cons_zero, List.set_cons_succ, i64_w, i32_w]
            rfl
           exact norm_ (by simp only [putAll, Act.put, List.setIfInBounds_toArray, List.set_cons_zero, List.set_cons_succ]) (hCont (v197, v200, .slice Ao30 y202.length co30, gb205) _ ⟨hHeld, (by exact Kd.xQ HO189.out), (by exact Kd.xR HO192.out), (by exact Kd.xR HO204.out), (by exact bk BK193.out), (by exact bk BK205.out), GW205.out, GE205.out, NB193_205.out, NB205_193.out, (by exact bw HB.out)⟩)
         ·
          skip
          refine box_step ?hg (N := 5) ?hd (cs := #[.slice none 0 0, .slice none 0 0]) (t := 25) ?hr ?_; (case hd => rfl); (case hg => rfl); (case hr => first | (go_simp; done) | (go_simp; rfl))
          intro gb205 hg w27 hbox hb
          have n0_ := Aside0.mk (Kd.Q_below (by exact Kd.xQ HO189.out) hb)
          have n1_ := Aside0.mk (Kd.R_below (by exact Kd.xR HO192.out) hb)
          have n2_ := Aside0.mk (Kd.R_below (by exact Kd.xR HO198.out) hb)
          have n3_ := Aside0.mk (blk_below (g := gb193) (o := .cells #[.slice Ao9 t187.length co9, .slice Ao11 t190.length co11] 25 (0, 0)) (by exact bk BK193.out) hb)
          have n4_ := Aside0.mk (below_step (by exact bw HB.out) hb)
          have n5_ := Aside0.mk (hbox)
          have n6_ := Aside0.mk ((by rw [hg]; exact (below_size (by exact bw HB.out)) : w.heap.size ≤ gb205))
          have n7_ := Aside0.mk ((by rw [hg]; exact (below_size (by exact bw HB.out)) : w.heap.size ≤ gb205))
          have n8_ := Aside0.mk ((by rw [hg]; exact Nat.ne_of_lt (blk_lt (g := gb193) (o := .cells #[.slice Ao9 t187.length co9, .slice Ao11 t190.length co11] 25 (0, 0)) (by exact bk BK193.out)) : gb193 ≠ gb205))
          have n9_ := Aside0.mk ((by rw [hg]; exact Nat.ne_of_gt (blk_lt (g := gb193) (o := .cells #[.slice Ao9 t187.length co9, .slice Ao11 t190.length co11] 25 (0, 0)) (by exact bk BK193.out)) : gb205 ≠ gb193))
          clear HO189
          clear HO192
          clear HO198
          clear BK193
          clear HB
          have HO189 := n0_
          have HO192 := n1_
          have HO198 := n2_
          have BK193 := n3_
          have HB := n4_
          have BK205 := n5_
          have GW205 := n6_
          have GE205 := n7_
          have NB193_205 := n8_
          have NB205_193 := n9_
          clear n0_ n1_ n2_ n3_ n4_ n5_ n6_ n7_ n8_ n9_
          clear hb hbox hg
          refine hK.out _ _ ⟨(blk_cell BK193.out 0).trans rfl, (blk_cell BK193.out 1).trans rfl⟩ (fun hHeld => ?_)
          clear hK K
          refine norm_ (a' := ?_) ?_ ?_
          rotate_left
          ·
           show Act.put _ (some 5) _ = _
           simp only [Act.put, List.setIfInBounds_toArray, List.set_cons_zero, List.set_cons_succ, i64_w, i32_w]
           rfl
          refine one_ (i := 5) (N := some 22) laws_FnSchemaValid.m13 rfl rfl (one_of HT_.out (by kernel_rfl)) (by decide) (fun K hK => ?_)
          refine Kd.R_append_rows_step k83 (w0 := w) w.heap.size (by rfl) (.tmp 19) (.tmp 21) 23 83 (.agg #[(.string ⟨#[]⟩), (.int .i64 0)]) 24 rfl Try.underlying23 info83 rfl (by decide) (by omega) v197 y196 t190 _ _ _ (fun k_ => some k_ ≠ (.slice Ao9 t187.length co9 : Value).ownBlock ∧ some k_ ≠ (.slice Ao11 t190.length co11 : Value).ownBlock) (fun _ => False) rfl rfl ?aO ?aR (fun _ _ h => h) (fun _ h => h.elim) ?aF ?aB ?aS ?aL ?_
          (case aR => repeat (first | exact (Kd.R_reads' HO192.out).2.2 | (with_reducible refine Kd.C_alloc ?_ _) | (with_reducible refine Kd.C_drewN ?_ _) | (with_reducible refine Kd.C_drew ?_)))
          (case aB => exact (by exact bw HB.out))
          (case aF => exact (fun k_ hk => ⟨Kd.fresh' (Kd.Q_lt (by exact Kd.xQ HO189.out)) k_ hk, Kd.fresh' (Kd.R_lt (by exact Kd.xR HO192.out)) k_ hk⟩))
          (case aO => exact (by (with_reducible repeat (first | apply Kd.R_alloc | apply Kd.R_drewN | apply Kd.R_drew)); exact Kd.R_mono HO198.out (fun _ hk => okp hk)))
          (case aS => exact (below_size (by exact bw HB.out)))
          (case aL => have := LMc18.out; omega)
          intro v200 w28 ho hb hg hat
          rw [← Ny199.out] at ho
          have n0_ := Aside0.mk (Kd.Q_after (ok := (fun k_ => some k_ ≠ (.slice Ao11 t190.length co11 : Value).ownBlock)) (by exact Kd.xQ HO189.out) hg hat)
          have n1_ := Aside0.mk (Kd.R_after (ok := (fun k_ => some k_ ≠ (.slice Ao9 t187.length co9 : Value).ownBlock)) (by exact Kd.xR HO192.out) hg hat)
          have n2_ := Aside0.mk (blk_grown (g := gb193) (o := .cells #[.slice Ao9 t187.length co9, .slice Ao11 t190.length co11] 25 (0, 0)) (by exact bk BK193.out) hg (Kd.R_ne HO198.out BK193.out (by decide)))
          have n3_ := Aside0.mk (blk_grown (g := gb205) (o := .cells #[.slice none 0 0, .slice none 0 0] 25 (0, 0)) (by exact bk BK205.out) hg (Kd.R_ne HO198.out BK205.out (by decide)))
          have n4_ := Aside0.mk (hb)
          have n5_ := Aside0.mk (ho)
          clear HO189
          clear HO192
          clear BK193
          clear BK205
          clear HB
          clear HO198
          have HO189 := n0_
          have HO192 := n1_
          have BK193 := n2_
          have BK205 := n3_
          have HB := n4_
          have HO201 := n5_
          clear n0_ n1_ n2_ n3_ n4_ n5_
          clear ho hb hg hat
          refine hK.out _ _ ⟨(blk_cell BK193.out 0).trans rfl, (blk_cell BK193.out 1).trans rfl⟩ (fun hHeld => ?_)
          clear hK K
          refine norm_ (a' := ?_) ?_ ?_
          rotate_left
          ·
           show Act.put _ (some 22) _ = _
           simp only [Act.put, List.setIfInBounds_toArray, List.set_cons_zero, List.set_cons_succ, i64_w, i32_w]
           rfl
          refine one_ (i := 8) (N := some 25) laws_FnSchemaValid.m15 rfl rfl (one_of HT_.out (by kernel_rfl)) (by decide) (fun K hK => ?_)
          refine Kd.R_append_rows_step k83 (w0 := w) w.heap.size (by rfl) (.tmp 22) (.tmp 24) 23 83 (.agg #[(.string ⟨#[]⟩), (.int .i64 0)]) 24 rfl Try.underlying23 info83 rfl (by decide) (by omega) v200 y199 t190 _ _ _ (fun k_ => some k_ ≠ (.slice Ao9 t187.length co9 : Value).ownBlock ∧ some k_ ≠ (.slice Ao11 t190.length co11 : Value).ownBlock) (fun _ => False) rfl rfl ?aO ?aR (fun _ _ h => h) (fun _ h => h.elim) ?aF ?aB ?aS ?aL ?_
          (case aR => repeat (first | exact (Kd.R_reads' HO192.out).2.2 | (with_reducible refine Kd.C_alloc ?_ _) | (with_reducible refine Kd.C_drewN ?_ _) | (with_reducible refine Kd.C_drew ?_)))
          (case aB => exact (by exact bw HB.out))
          (case aF => exact (fun k_ hk => ⟨Kd.fresh' (Kd.Q_lt (by exact Kd.xQ HO189.out)) k_ hk, Kd.fresh' (Kd.R_lt (by exact Kd.xR HO192.out)) k_ hk⟩))
          (case aO => exact (by exact Kd.xR HO201.out))
          (case aS => exact (below_size (by exact bw HB.out)))
          (case aL => have := LMc19.out; omega)
          intro v203 w29 ho hb hg hat
          rw [← Ny202.out] at ho
          have n0_ := Aside0.mk (Kd.Q_after (ok := (fun k_ => some k_ ≠ (.slice Ao11 t190.length co11 : Value).ownBlock)) (by exact Kd.xQ HO189.out) hg hat)
          have n1_ := Aside0.mk (Kd.R_after (ok := (fun k_ => some k_ ≠ (.slice Ao9 t187.length co9 : Value).ownBlock)) (by exact Kd.xR HO192.out) hg hat)
          have n2_ := Aside0.mk (blk_grown (g := gb193) (o := .cells #[.slice Ao9 t187.length co9, .slice Ao11 t190.length co11] 25 (0, 0)) (by exact bk BK193.out) hg (Kd.R_ne HO201.out BK193.out (by decide)))
          have n3_ := Aside0.mk (blk_grown (g := gb205) (o := .cells #[.slice none 0 0, .slice none 0 0] 25 (0, 0)) (by exact bk BK205.out) hg (Kd.R_ne HO201.out BK205.out (by decide)))
          have n4_ := Aside0.mk (hb)
          have n5_ := Aside0.mk (ho)
          clear HO189
          clear HO192
          clear BK193
          clear BK205
          clear HB
          clear HO201
          have HO189 := n0_
          have HO192 := n1_
          have BK193 := n2_
          have BK205 := n3_
          have HB := n4_
          have HO204 := n5_
          clear n0_ n1_ n2_ n3_ n4_ n5_
          clear ho hb hg hat
          obtain ⟨Ao30, co30, eo30⟩ := Kd.R_slice HO204.out
          (first | subst eo30 | (injection eo30 with f1_ f2_ f3_; have f4_ := f1_.symm; have f5_ := f3_.symm; clear f1_ f2_ f3_; subst f4_; subst f5_))
          refine hK.out _ _ ⟨(blk_cell BK193.out 0).trans rfl, (blk_cell BK193.out 1).trans rfl⟩ (fun hHeld => ?_)
          clear hK K
          refine norm_ (a' := ?_) ?_ ?_
          rotate_left
          ·
           show Act.put _ (some 25) _ = _
           simp only [Act.put, List.setIfInBounds_toArray, List.set_cons_zero, List.set_cons_succ, i64_w, i32_w]
           rfl
          refine pure_ (i := 9) (N := some 26) (v := ?_) (a' := ?_) laws_FnSchemaValid.m7 rfl rfl (any_of HT_.out (by kernel_rfl)) (fun _ _ _ h => h) (Or.inl ⟨by rfl, ?_⟩) ?_ ?_
          rotate_left
          ·
           intro w'
           go_simp
           with_reducible rfl
          rotate_left
          ·
           simp only [Act.put, List.setIfInBounds_toArray, List.set_cons_zero, List.set_cons_succ, i64_w, i32_w]
           rfl
          exact norm_ (by simp only [putAll, Act.put, List.setIfInBounds_toArray, List.set_cons_zero, List.set_cons_succ]) (hCont (v197, v200, .slice Ao30 y202.length co30, gb205) _ ⟨hHeld, (by exact Kd.xQ HO189.out), (by exact Kd.xR HO192.out), (by exact Kd.xR HO204.out), (by exact bk BK193.out), (by exact bk BK205.out), GW205.out, GE205.out, NB193_205.out, NB205_193.out, (by exact bw HB.out)⟩)
        ·
         skip
         refine box_step ?hg (N := 5) ?hd (cs := #[.slice none 0 0, .slice none 0 0]) (t := 25) ?hr ?_; (case hd => rfl); (case hg => rfl); (case hr => first | (go_simp; done) | (go_simp; rfl))
         intro gb205 hg w25 hbox hb
         have n0_ := Aside0.mk (Kd.Q_below (by exact Kd.xQ HO189.out) hb)
         have n1_ := Aside0.mk (Kd.R_below (by exact Kd.xR HO192.out) hb)
         have n2_ := Aside0.mk (blk_below (g := gb193) (o := .cells #[.slice Ao9 t187.length co9, .slice Ao11 t190.length co11] 25 (0, 0)) (by exact bk BK193.out) hb)
         have n3_ := Aside0.mk (below_step (by exact bw HB.out) hb)
         have n4_ := Aside0.mk (hbox)
         have n5_ := Aside0.mk ((by rw [hg]; exact (below_size (by exact bw HB.out)) : w.heap.size ≤ gb205))
         have n6_ := Aside0.mk ((by rw [hg]; exact (below_size (by exact bw HB.out)) : w.heap.size ≤ gb205))
         have n7_ := Aside0.mk ((by rw [hg]; exact Nat.ne_of_lt (blk_lt (g := gb193) (o := .cells #[.slice Ao9 t187.length co9, .slice Ao11 t190.length co11] 25 (0, 0)) (by exact bk BK193.out)) : gb193 ≠ gb205))
         have n8_ := Aside0.mk ((by rw [hg]; exact Nat.ne_of_gt (blk_lt (g := gb193) (o := .cells #[.slice Ao9 t187.length co9, .slice Ao11 t190.length co11] 25 (0, 0)) (by exact bk BK193.out)) : gb205 ≠ gb193))
         clear HO189
         clear HO192
         clear BK193
         clear HB
         have HO189 := n0_
         have HO192 := n1_
         have BK193 := n2_
         have HB := n3_
         have BK205 := n4_
         have GW205 := n5_
         have GE205 := n6_
         have NB193_205 := n7_
         have NB205_193 := n8_
         clear n0_ n1_ n2_ n3_ n4_ n5_ n6_ n7_ n8_
         clear hb hbox hg
         refine hK.out _ _ ⟨(blk_cell BK193.out 0).trans rfl, (blk_cell BK193.out 1).trans rfl⟩ (fun hHeld => ?_)
         clear hK K
         refine norm_ (a' := ?_) ?_ ?_
         rotate_left
         ·
          show Act.put _ (some 5) _ = _
          simp only [Act.put, List.setIfInBounds_toArray, List.set_cons_zero, List.set_cons_succ, i64_w, i32_w]
          rfl
         refine one_ (i := 2) (N := some 19) laws_FnSchemaValid.m11 rfl rfl (one_of HT_.out (by kernel_rfl)) (by decide) (fun K hK => ?_)
         refine Kd.R_lit_step k83 _ 83 ?hg (N := 19) ?hd (xs := ([] : List (S83))) (inner := []) (ok := fun _ => True) (okp := fun _ => True) ?hr ?hp (fun _ hk => hk) trivial (Below.refl _ _) (Nat.le_refl _) (by simp) ?_; (case hd => rfl); (case hg => rfl); (case hr => first | (go_simp; done) | (go_simp; rfl)); (case hp => exact (Reps.none _ _))
         intro v197 w26 ho27 hb hg_ hnew_
         clear hg_ hnew_
         (first | rw [← Ny196.out] at ho27 | (simp only [Int.reduceToNat] at ho27; rw [← Ny196.out] at ho27))
         have n0_ := Aside0.mk (Kd.Q_elder' (by exact Kd.xQ HO189.out) (Kd.R_base ho27) hb)
         have n1_ := Aside0.mk (Kd.R_elder' (by exact Kd.xR HO192.out) (Kd.R_base ho27) hb)
         have n2_ := Aside0.mk (Kd.R_lower (Kd.R_new' (Kd.R_new' ho27 (Kd.Q_lt (by exact Kd.xQ HO189.out))) (Kd.R_lt (by exact Kd.xR HO192.out))) (below_size (by exact bw HB.out)))
         have n3_ := Aside0.mk (blk_below (g := gb193) (o := .cells #[.slice Ao9 t187.length co9, .slice Ao11 t190.length co11] 25 (0, 0)) (by exact bk BK193.out) hb)
         have n4_ := Aside0.mk (blk_below (g := gb205) (o := .cells #[.slice none 0 0, .slice none 0 0] 25 (0, 0)) (by exact bk BK205.out) hb)
         have n5_ := Aside0.mk (below_step (by exact bw HB.out) hb)
         clear HO189
         clear HO192
         clear BK193
         clear BK205
         clear HB
         have HO189 := n0_
         have HO192 := n1_
         have HO198 := n2_
         have BK193 := n3_
         have BK205 := n4_
         have HB := n5_
         clear n0_ n1_ n2_ n3_ n4_ n5_
         clear hb ho27
         refine hK.out _ _ ⟨(blk_cell BK193.out 0).trans rfl, (blk_cell BK193.out 1).trans rfl⟩ (fun hHeld => ?_)
         clear hK K
         refine norm_ (a' := ?_) ?_ ?_
         rotate_left
         ·
          show Act.put _ (some 19) _ = _
          simp only [Act.put, List.setIfInBounds_toArray, List.set_cons_zero, List.set_cons_succ, i64_w, i32_w]
          rfl
         refine one_ (i := 5) (N := some 22) laws_FnSchemaValid.m13 rfl rfl (one_of HT_.out (by kernel_rfl)) (by decide) (fun K hK => ?_)
         refine Kd.R_append_rows_step k83 (w0 := w) w.heap.size (by rfl) (.tmp 19) (.tmp 21) 23 83 (.agg #[(.string ⟨#[]⟩), (.int .i64 0)]) 24 rfl Try.underlying23 info83 rfl (by decide) (by omega) v197 y196 t190 _ _ _ (fun k_ => some k_ ≠ (.slice Ao9 t187.length co9 : Value).ownBlock ∧ some k_ ≠ (.slice Ao11 t190.length co11 : Value).ownBlock) (fun _ => False) rfl rfl ?aO ?aR (fun _ _ h => h) (fun _ h => h.elim) ?aF ?aB ?aS ?aL ?_
         (case aR => repeat (first | exact (Kd.R_reads' HO192.out).2.2 | (with_reducible refine Kd.C_alloc ?_ _) | (with_reducible refine Kd.C_drewN ?_ _) | (with_reducible refine Kd.C_drew ?_)))
         (case aB => exact (by exact bw HB.out))
         (case aF => exact (fun k_ hk => ⟨Kd.fresh' (Kd.Q_lt (by exact Kd.xQ HO189.out)) k_ hk, Kd.fresh' (Kd.R_lt (by exact Kd.xR HO192.out)) k_ hk⟩))
         (case aO => exact (by (with_reducible repeat (first | apply Kd.R_alloc | apply Kd.R_drewN | apply Kd.R_drew)); exact Kd.R_mono HO198.out (fun _ hk => okp hk)))
         (case aS => exact (below_size (by exact bw HB.out)))
         (case aL => have := LMc18.out; omega)
         intro v200 w28 ho hb hg hat
         rw [← Ny199.out] at ho
         have n0_ := Aside0.mk (Kd.Q_after (ok := (fun k_ => some k_ ≠ (.slice Ao11 t190.length co11 : Value).ownBlock)) (by exact Kd.xQ HO189.out) hg hat)
         have n1_ := Aside0.mk (Kd.R_after (ok := (fun k_ => some k_ ≠ (.slice Ao9 t187.length co9 : Value).ownBlock)) (by exact Kd.xR HO192.out) hg hat)
         have n2_ := Aside0.mk (blk_grown (g := gb193) (o := .cells #[.slice Ao9 t187.length co9, .slice Ao11 t190.length co11] 25 (0, 0)) (by exact bk BK193.out) hg (Kd.R_ne HO198.out BK193.out (by decide)))
         have n3_ := Aside0.mk (blk_grown (g := gb205) (o := .cells #[.slice none 0 0, .slice none 0 0] 25 (0, 0)) (by exact bk BK205.out) hg (Kd.R_ne HO198.out BK205.out (by decide)))
         have n4_ := Aside0.mk (hb)
         have n5_ := Aside0.mk (ho)
         clear HO189
         clear HO192
         clear BK193
         clear BK205
         clear HB
         clear HO198
         have HO189 := n0_
         have HO192 := n1_
         have BK193 := n2_
         have BK205 := n3_
         have HB := n4_
         have HO201 := n5_
         clear n0_ n1_ n2_ n3_ n4_ n5_
         clear ho hb hg hat
         refine hK.out _ _ ⟨(blk_cell BK193.out 0).trans rfl, (blk_cell BK193.out 1).trans rfl⟩ (fun hHeld => ?_)
         clear hK K
         refine norm_ (a' := ?_) ?_ ?_
         rotate_left
         ·
          show Act.put _ (some 22) _ = _
          simp only [Act.put, List.setIfInBounds_toArray, List.set_cons_zero, List.set_cons_succ, i64_w, i32_w]
          rfl
         refine one_ (i := 8) (N := some 25) laws_FnSchemaValid.m15 rfl rfl (one_of HT_.out (by kernel_rfl)) (by decide) (fun K hK => ?_)
         refine Kd.R_append_rows_step k83 (w0 := w) w.heap.size (by rfl) (.tmp 22) (.tmp 24) 23 83 (.agg #[(.string ⟨#[]⟩), (.int .i64 0)]) 24 rfl Try.underlying23 info83 rfl (by decide) (by omega) v200 y199 t190 _ _ _ (fun k_ => some k_ ≠ (.slice Ao9 t187.length co9 : Value).ownBlock ∧ some k_ ≠ (.slice Ao11 t190.length co11 : Value).ownBlock) (fun _ => False) rfl rfl ?aO ?aR (fun _ _ h => h) (fun _ h => h.elim) ?aF ?aB ?aS ?aL ?_
         (case aR => repeat (first | exact (Kd.R_reads' HO192.out).2.2 | (with_reducible refine Kd.C_alloc ?_ _) | (with_reducible refine Kd.C_drewN ?_ _) | (with_reducible refine Kd.C_drew ?_)))
         (case aB => exact (by exact bw HB.out))
         (case aF => exact (fun k_ hk => ⟨Kd.fresh' (Kd.Q_lt (by exact Kd.xQ HO189.out)) k_ hk, Kd.fresh' (Kd.R_lt (by exact Kd.xR HO192.out)) k_ hk⟩))
         (case aO => exact (by exact Kd.xR HO201.out))
         (case aS => exact (below_size (by exact bw HB.out)))
         (case aL => have := LMc19.out; omega)
         intro v203 w29 ho hb hg hat
         rw [← Ny202.out] at ho
         have n0_ := Aside0.mk (Kd.Q_after (ok := (fun k_ => some k_ ≠ (.slice Ao11 t190.length co11 : Value).ownBlock)) (by exact Kd.xQ HO189.out) hg hat)
         have n1_ := Aside0.mk (Kd.R_after (ok := (fun k_ => some k_ ≠ (.slice Ao9 t187.length co9 : Value).ownBlock)) (by exact Kd.xR HO192.out) hg hat)
         have n2_ := Aside0.mk (blk_grown (g := gb193) (o := .cells #[.slice Ao9 t187.length co9, .slice Ao11 t190.length co11] 25 (0, 0)) (by exact bk BK193.out) hg (Kd.R_ne HO201.out BK193.out (by decide)))
         have n3_ := Aside0.mk (blk_grown (g := gb205) (o := .cells #[.slice none 0 0, .slice none 0 0] 25 (0, 0)) (by exact bk BK205.out) hg (Kd.R_ne HO201.out BK205.out (by decide)))
         have n4_ := Aside0.mk (hb)
         have n5_ := Aside0.mk (ho)
         clear HO189
         clear HO192
         clear BK193
         clear BK205
         clear HB
         clear HO201
         have HO189 := n0_
         have HO192 := n1_
         have BK193 := n2_
         have BK205 := n3_
         have HB := n4_
         have HO204 := n5_
         clear n0_ n1_ n2_ n3_ n4_ n5_
         clear ho hb hg hat
         obtain ⟨Ao30, co30, eo30⟩ := Kd.R_slice HO204.out
         (first | subst eo30 | (injection eo30 with f1_ f2_ f3_; have f4_ := f1_.symm; have f5_ := f3_.symm; clear f1_ f2_ f3_; subst f4_; subst f5_))
         refine hK.out _ _ ⟨(blk_cell BK193.out 0).trans rfl, (blk_cell BK193.out 1).trans rfl⟩ (fun hHeld => ?_)
         clear hK K
         refine norm_ (a' := ?_) ?_ ?_
         rotate_left
         ·
          show Act.put _ (some 25) _ = _
          simp only [Act.put, List.setIfInBounds_toArray, List.set_cons_zero, List.set_cons_succ, i64_w, i32_w]
          rfl
         refine pure_ (i := 9) (N := some 26) (v := ?_) (a' := ?_) laws_FnSchemaValid.m7 rfl rfl (any_of HT_.out (by kernel_rfl)) (fun _ _ _ h => h) (Or.inl ⟨by rfl, ?_⟩) ?_ ?_
         rotate_left
         ·
          intro w'
          go_simp
          with_reducible rfl
         rotate_left
         ·
          simp only [Act.put, List.setIfInBounds_toArray, List.set_cons_zero, List.set_cons_succ, i64_w, i32_w]
          rfl
         exact norm_ (by simp only [putAll, Act.put, List.setIfInBounds_toArray, List.set_cons_zero, List.set_cons_succ]) (hCont (v197, v200, .slice Ao30 y202.length co30, gb205) _ ⟨hHeld, (by exact Kd.xQ HO189.out), (by exact Kd.xR HO192.out), (by exact Kd.xR HO204.out), (by exact bk BK193.out), (by exact bk BK205.out), GW205.out, GE205.out, NB193_205.out, NB205_193.out, (by exact bw HB.out)⟩)
       rintro ⟨v197, v200, v203, gb205⟩ w31 ⟨hS_, h0_, h1_, h2_, h3_, h4_, h5_, h6_, h7_, h8_, h9_⟩
       have n0_ : Aside0 (Kd.Q k83 83 w31 w.heap.size (fun k_ => some k_ ≠ (.slice Ao11 t190.length co11 : Value).ownBlock ∧ some k_ ≠ (v203 : Value).ownBlock) (.slice Ao9 t187.length co9) t187) := ⟨h0_⟩
       have n1_ : Aside0 (Kd.R k83 83 w31 w.heap.size (fun k_ => some k_ ≠ (.slice Ao9 t187.length co9 : Value).ownBlock ∧ some k_ ≠ (v203 : Value).ownBlock) (.slice Ao11 t190.length co11) t190) := ⟨h1_⟩
       have n2_ : Aside0 (Kd.R k83 83 w31 w.heap.size (fun k_ => some k_ ≠ (.slice Ao9 t187.length co9 : Value).ownBlock ∧ some k_ ≠ (.slice Ao11 t190.length co11 : Value).ownBlock) v203 y202) := ⟨h2_⟩
       have n3_ : Aside0 (w31.heap[gb193]? = some (.cells #[.slice Ao9 t187.length co9, .slice Ao11 t190.length co11] 25 (0, 0))) := ⟨h3_⟩
       have n4_ : Aside0 (w31.heap[gb205]? = some (.cells #[.slice none 0 0, .slice none 0 0] 25 (0, 0))) := ⟨h4_⟩
       have n5_ : Aside0 (w.heap.size ≤ gb205) := ⟨h5_⟩
       have n6_ : Aside0 (w.heap.size ≤ gb205) := ⟨h6_⟩
       have n7_ : Aside0 (gb193 ≠ gb205) := ⟨h7_⟩
       have n8_ : Aside0 (gb205 ≠ gb193) := ⟨h8_⟩
       have n9_ : Aside0 (Below w.heap.size w w31) := ⟨h9_⟩
       clear HO189
       clear HO192
       clear BK193
       clear HB
       clear h0_ h1_ h2_ h3_ h4_ h5_ h6_ h7_ h8_ h9_
       have HO189 := n0_
       have HO192 := n1_
       have HO204 := n2_
       have BK193 := n3_
       have BK205 := n4_
       have GW205 := n5_
       have GE205 := n6_
       have NB193_205 := n7_
       have NB205_193 := n8_
       have HB := n9_
       clear n0_ n1_ n2_ n3_ n4_ n5_ n6_ n7_ n8_ n9_
       have hHeld : w31.cell? ⟨gb193, 0, none⟩ = some (.slice Ao9 t187.length co9) ∧ w31.cell? ⟨gb193, 1, none⟩ = some (.slice Ao11 t190.length co11) := hS_
       obtain ⟨Ao32, co32, eo32⟩ := Kd.R_slice HO204.out
       (first | subst eo32 | (injection eo32 with f1_ f2_ f3_; have f4_ := f1_.symm; have f5_ := f3_.symm; clear f1_ f2_ f3_; subst f4_; subst f5_))
       refine norm_ (a' := ?_) ?_ ?_
       rotate_left
       ·
        simp only [putAll, Act.put, List.setIfInBounds_toArray, List.set_cons_zero, List.set_cons_succ]
        rfl
       refine one_ (i := 11) (N := none) laws_FnSchemaValid.m16 rfl rfl (one_of HT_.out (by kernel_rfl)) (by decide) (fun K hK => ?_)
       have hs33 : w31.cell? ⟨gb205, 0, none⟩ = some (.slice none 0 0) := (blk_cell BK205.out 0).trans rfl
       have hfs33 := blk_frozen BK205.out 0
       have hns33_0 := NB193_205.out
       have hms33_0 := NB205_193.out
       have hs34 : w31.cell? ⟨gb205, 1, none⟩ = some (.slice none 0 0) := (blk_cell BK205.out 1).trans rfl
       have hfs34 := blk_frozen BK205.out 1
       have hns34_0 := NB193_205.out
       have hms34_0 := NB205_193.out
       refine skip_ (w1 := ?_) (by rfl) rfl ?_ ?_
       rotate_left
       ·
        go_simp
        rfl
       refine hK.out _ _ ⟨((cell_far (p := ⟨gb205, _, none⟩) NB193_205.out _).trans (((cell_far (p := ⟨gb205, _, none⟩) NB193_205.out _).trans (hHeld.1)))), ((cell_far (p := ⟨gb205, _, none⟩) NB193_205.out _).trans (((cell_far (p := ⟨gb205, _, none⟩) NB193_205.out _).trans (hHeld.2))))⟩ (fun hHeld => ?_)
       clear hK K
       refine done_ (done_of HT_.out (by kernel_rfl)) ?_
       have n0_ : Aside0 (Kd.Q k83 83 ((w31.setCell ⟨gb205, 0, none⟩ (.slice Ao9 t187.length co9)).setCell ⟨gb205, 1, none⟩ (.slice Ao32 y202.length co32)) w.heap.size (fun k_ => some k_ ≠ (.slice Ao11 t190.length co11 : Value).ownBlock ∧ some k_ ≠ (.slice Ao32 y202.length co32 : Value).ownBlock) (.slice Ao9 t187.length co9) t187) := ⟨by (with_reducible repeat (first | apply Kd.Q_alloc | apply Kd.Q_drewN | apply Kd.Q_drew)); exact Kd.Q_mono (Kd.Q_far (p := ⟨gb205, 1, none⟩) (Kd.Q_far (p := ⟨gb205, 0, none⟩) (Kd.Q_types HO189.out BK205.out (by decide)) (fun _ hk => hk.2) (.slice Ao9 t187.length co9)) (fun _ hk => hk.2) (.slice Ao32 y202.length co32)) (fun _ hk => okp hk)⟩
       have n1_ : Aside0 (Kd.R k83 83 ((w31.setCell ⟨gb205, 0, none⟩ (.slice Ao9 t187.length co9)).setCell ⟨gb205, 1, none⟩ (.slice Ao32 y202.length co32)) w.heap.size (fun k_ => some k_ ≠ (.slice Ao9 t187.length co9 : Value).ownBlock ∧ some k_ ≠ (.slice Ao32 y202.length co32 : Value).ownBlock) (.slice Ao11 t190.length co11) t190) := ⟨by (with_reducible repeat (first | apply Kd.R_alloc | apply Kd.R_drewN | apply Kd.R_drew)); exact Kd.R_mono (Kd.R_far (p := ⟨gb205, 1, none⟩) (Kd.R_far (p := ⟨gb205, 0, none⟩) (Kd.R_types HO192.out BK205.out (by decide)) (fun _ hk => hk.2) (.slice Ao9 t187.length co9)) (fun _ hk => hk.2) (.slice Ao32 y202.length co32)) (fun _ hk => okp hk)⟩
       have n2_ : Aside0 (Kd.R k83 83 ((w31.setCell ⟨gb205, 0, none⟩ (.slice Ao9 t187.length co9)).setCell ⟨gb205, 1, none⟩ (.slice Ao32 y202.length co32)) w.heap.size (fun k_ => some k_ ≠ (.slice Ao9 t187.length co9 : Value).ownBlock ∧ some k_ ≠ (.slice Ao11 t190.length co11 : Value).ownBlock) (.slice Ao32 y202.length co32) y202) := ⟨by (with_reducible repeat (first | apply Kd.R_alloc | apply Kd.R_drewN | apply Kd.R_drew)); exact Kd.R_mono (Kd.R_far (p := ⟨gb205, 1, none⟩) (Kd.R_far (p := ⟨gb205, 0, none⟩) (Kd.R_types HO204.out BK205.out (by decide)) (fun _ hk => hk.2) (.slice Ao9 t187.length co9)) (fun _ hk => hk.2) (.slice Ao32 y202.length co32)) (fun _ hk => okp hk)⟩
       have n3_ : Aside0 (((w31.setCell ⟨gb205, 0, none⟩ (.slice Ao9 t187.length co9)).setCell ⟨gb205, 1, none⟩ (.slice Ao32 y202.length co32)).heap[gb193]? = some (.cells #[.slice Ao9 t187.length co9, .slice Ao11 t190.length co11] 25 (0, 0))) := ⟨by (with_reducible repeat (first | refine blk_drewN ?_ _ | refine blk_drew ?_ | refine blk_alloc ?_ _)); refine blk_far ?_ NB193_205.out _; (with_reducible repeat (first | refine blk_drewN ?_ _ | refine blk_drew ?_ | refine blk_alloc ?_ _)); refine blk_far ?_ NB193_205.out _; exact bk BK193.out⟩
       have n4_ : Aside0 (((w31.setCell ⟨gb205, 0, none⟩ (.slice Ao9 t187.length co9)).setCell ⟨gb205, 1, none⟩ (.slice Ao32 y202.length co32)).heap[gb205]? = some (.cells #[.slice Ao9 t187.length co9, .slice Ao32 y202.length co32] 25 (0, 0))) := ⟨by (with_reducible repeat (first | refine blk_drewN ?_ _ | refine blk_drew ?_ | refine blk_alloc ?_ _)); refine blk_put (cs := #[.slice Ao9 t187.length co9, .slice none 0 0]) ?_ 1 _ rfl; (with_reducible repeat (first | refine blk_drewN ?_ _ | refine blk_drew ?_ | refine blk_alloc ?_ _)); refine blk_put (cs := #[.slice none 0 0, .slice none 0 0]) ?_ 0 _ rfl; exact bk BK205.out⟩
       have n5_ : Aside0 (Below w.heap.size w ((w31.setCell ⟨gb205, 0, none⟩ (.slice Ao9 t187.length co9)).setCell ⟨gb205, 1, none⟩ (.slice Ao32 y202.length co32))) := ⟨by exact bw HB.out⟩
       (try clear HO189)
       (try clear HO192)
       (try clear HO204)
       (try clear BK193)
       (try clear BK205)
       (try clear HB)
       generalize ((w31.setCell ⟨gb205, 0, none⟩ (.slice Ao9 t187.length co9)).setCell ⟨gb205, 1, none⟩ (.slice Ao32 y202.length co32)) = w35 at n0_ n1_ n2_ n3_ n4_ n5_ ⊢
       have HO189 := n0_
       have HO192 := n1_
       have HO204 := n2_
       have BK193 := n3_
       have BK205 := n4_
       have HB := n5_
       clear n0_ n1_ n2_ n3_ n4_ n5_
       try go_wp2_with (first | ((with_reducible refine gate_callee (f := 12) rfl ?_); refine gl (some 28) Try.func12 #[.agg #[.slice none 0 0, .slice none 0 0]] ?_; (refine (impl_SchemaValid.calls k (fun k_ => False) _ _ ([] : List (S83)) (fun k_ => False) _ _ ([] : List (S83)) true _ ?side1 ?side2 A20.out).mono ?_); (case side1 => exact Kd.V_nil _ _ _ _ _); (case side2 => exact Kd.V_nil _ _ _ _ _); rintro e w36 ⟨rfl, hb⟩; refine ⟨_, rfl, ?_⟩; have n0_ := Aside0.mk (Kd.Q_below (by exact Kd.xQ HO189.out) hb); have n1_ := Aside0.mk (Kd.R_below (by exact Kd.xR HO192.out) hb); have n2_ := Aside0.mk (Kd.R_below (by exact Kd.xR HO204.out) hb); have n3_ := Aside0.mk (blk_below (g := gb193) (o := .cells #[.slice Ao9 t187.length co9, .slice Ao11 t190.length co11] 25 (0, 0)) (by exact bk BK193.out) hb); have n4_ := Aside0.mk (blk_below (g := gb205) (o := .cells #[.slice Ao9 t187.length co9, .slice Ao32 y202.length co32] 25 (0, 0)) (by exact bk BK205.out) hb); have n5_ := Aside0.mk (below_step (by exact bw HB.out) hb); clear HO189; clear HO192; clear HO204; clear BK193; clear BK205; clear HB; have HO189 := n0_; have HO192 := n1_; have HO204 := n2_; have BK193 := n3_; have BK205 := n4_; have HB := n5_; clear n0_ n1_ n2_ n3_ n4_ n5_; (try clear hb); (try clear hb2); (try clear hk); (try clear hi); have hnb37 := NB193_205.out; have hnc37 := NB205_193.out; have hcz38_0 : w36.cell? ⟨gb193, 0, none⟩ = some (.slice Ao9 t187.length co9) := (blk_cell BK193.out 0).trans rfl; have hcz38_1 : w36.cell? ⟨gb193, 1, none⟩ = some (.slice Ao11 t190.length co11) := (blk_cell BK193.out 1).trans rfl; have hfz38_0 := blk_frozen BK193.out 0; have hfz38_1 := blk_frozen BK193.out 1) | (go_at_call 14; (with_reducible refine (laws_alive.calls k  t207 _ A23.out).mono ?_); rintro e w' ⟨rfl, ⟨nd, rfl⟩⟩; (try (rw [drewN_self w36]; generalize hq_ : World.drewN w36 _ = w36; have n0_ : Aside0 (Kd.Q k83 83 w36 w.heap.size (fun k_ => some k_ ≠ (.slice Ao11 t190.length co11 : Value).ownBlock ∧ some k_ ≠ (.slice Ao32 y202.length co32 : Value).ownBlock) (.slice Ao9 t187.length co9) t187) := ⟨by rw [← hq_]; exact (by exact Kd.xQ HO189.out)⟩; have n1_ : Aside0 (Kd.R k83 83 w36 w.heap.size (fun k_ => some k_ ≠ (.slice Ao9 t187.length co9 : Value).ownBlock ∧ some k_ ≠ (.slice Ao32 y202.length co32 : Value).ownBlock) (.slice Ao11 t190.length co11) t190) := ⟨by rw [← hq_]; exact (by exact Kd.xR HO192.out)⟩; have n2_ : Aside0 (Kd.R k83 83 w36 w.heap.size (fun k_ => some k_ ≠ (.slice Ao9 t187.length co9 : Value).ownBlock ∧ some k_ ≠ (.slice Ao11 t190.length co11 : Value).ownBlock) (.slice Ao32 y202.length co32) y202) := ⟨by rw [← hq_]; exact (by exact Kd.xR HO204.out)⟩; have n3_ : Aside0 (w36.heap[gb193]? = some (.cells #[.slice Ao9 t187.length co9, .slice Ao11 t190.length co11] 25 (0, 0))) := ⟨by rw [← hq_]; exact (by exact bk BK193.out)⟩; have n4_ : Aside0 (w36.heap[gb205]? = some (.cells #[.slice Ao9 t187.length co9, .slice Ao32 y202.length co32] 25 (0, 0))) := ⟨by rw [← hq_]; exact (by exact bk BK205.out)⟩; have n5_ : Aside0 (Below w.heap.size w w36) := ⟨by rw [← hq_]; exact (by exact bw HB.out)⟩; clear HO189 HO192 HO204 BK193 BK205 HB hq_; have HO189 := n0_; have HO192 := n1_; have HO204 := n2_; have BK193 := n3_; have BK205 := n4_; have HB := n5_; clear n0_ n1_ n2_ n3_ n4_ n5_))))
       go_ret
       exact ⟨by first | rfl | (simp [errW_none, errW_some] <;> rfl) | (simp [*, errW_none, errW_some] <;> rfl), by exact bw HB.out⟩
      ·
       rw [if_neg c22] at H
       have c22b0 : ((t190.length : Int) == 0) = false := beq_eq_false_iff_ne.mpr c22
       have c22b1 : ((t190.length : Int) != 0) = true := bne_iff_ne.mpr c22
       have c22b2 : ¬ (t190 = []) := fun h_ => c22 (by rw [h_]; rfl)
       replace H := Option.bind_eq_some_iff.mp H
       obtain ⟨t208, A390, H⟩ := H
       replace H : (if t208 = true then (some false) else ((laws_alive.f k).bind fun t209 => (some t209))) = some r := H
       have A39 := Aside0.mk A390
       clear A390
       by_cases c40 : t208 = true
       ·
        subst c40
        have H1 : (some false) = some r := by rw [if_pos rfl] at H; exact H
        clear H
        have H := H1
        clear H1
        obtain rfl := Option.some.inj H
        try go_wp2
        have n0_ := Aside0.mk (Kd.Q_drew HO189.out)
        have n1_ := Aside0.mk (Kd.R_drew HO192.out)
        have n2_ := Aside0.mk (blk_drew BK193.out)
        have n3_ := Aside0.mk (below_drew1 HB.out)
        clear HO189
        clear HO192
        clear BK193
        clear HB
        have HO189 := n0_
        have HO192 := n1_
        have BK193 := n2_
        have HB := n3_
        clear n0_ n1_ n2_ n3_
        refine start_ (n := 12) (S := fun w' => w'.cell? ⟨gb193, 0, none⟩ = some (.slice Ao9 t187.length co9) ∧ w'.cell? ⟨gb193, 1, none⟩ = some (.slice Ao11 t190.length co11)) (ds := []) laws_FnSchemaValid.m0 (by kernel_rfl) rfl rfl ⟨(blk_cell BK193.out 0).trans rfl, (blk_cell BK193.out 1).trans rfl⟩ (fun hHeld => ?_); refine with_tabW laws_FnSchemaValid.tab7 laws_FnSchemaValid.bits7 (fun HT_ HW_ => ?_)
        generalize w16.drew = w41 at HO189 HO192 BK193 HB hHeld ⊢
        refine pure_ (i := 0) (N := some 17) (v := ?_) (a' := ?_) laws_FnSchemaValid.m1 rfl rfl (any_of HT_.out (by kernel_rfl)) (fun _ _ _ h => h) (Or.inl ⟨by rfl, ?_⟩) ?_ ?_
        rotate_left
        ·
         intro w'
         go_simp
         with_reducible rfl
        rotate_left
        ·
         simp only [Act.put, List.setIfInBounds_toArray, List.set_cons_zero, List.set_cons_succ, i64_w, i32_w]
         rfl
        refine pure_ (i := 3) (N := some 20) (v := ?_) (a' := ?_) laws_FnSchemaValid.m2 rfl rfl (any_of HT_.out (by kernel_rfl)) (fun _ _ _ h => h) (Or.inl ⟨by rfl, ?_⟩) ?_ ?_
        rotate_left
        ·
         intro w'
         go_simp
         with_reducible rfl
        rotate_left
        ·
         simp only [Act.put, List.setIfInBounds_toArray, List.set_cons_zero, List.set_cons_succ, i64_w, i32_w]
         rfl
        refine pure_ (i := 6) (N := some 23) (v := ?_) (a' := ?_) laws_FnSchemaValid.m3 rfl rfl (any_of HT_.out (by kernel_rfl)) (fun _ _ _ h => h) (Or.inl ⟨by rfl, ?_⟩) ?_ ?_
        rotate_left
        ·
         intro w'
         go_simp
         with_reducible rfl
        rotate_left
        ·
         simp only [Act.put, List.setIfInBounds_toArray, List.set_cons_zero, List.set_cons_succ, i64_w, i32_w]
         rfl
        refine take_ (i := 1) (N := some 18) (v := ?_) (a' := ?_) laws_FnSchemaValid.m4 rfl rfl (take_ofW HT_.out HW_.out (by kernel_rfl)) (fun _ _ _ h => h) (Or.inl ⟨by rfl, ?_⟩) hHeld ?_ ?_
        rotate_left
        ·
         rintro w' ⟨s0, s1⟩
         go_simp
         with_reducible rfl
        rotate_left
        ·
         simp only [Act.put, List.setIfInBounds_toArray, List.set_cons_zero, List.set_cons_succ, i64_w, i32_w]
         rfl
        refine take_ (i := 4) (N := some 21) (v := ?_) (a' := ?_) laws_FnSchemaValid.m5 rfl rfl (take_ofW HT_.out HW_.out (by kernel_rfl)) (fun _ _ _ h => h) (Or.inl ⟨by rfl, ?_⟩) hHeld ?_ ?_
        rotate_left
        ·
         rintro w' ⟨s0, s1⟩
         go_simp
         with_reducible rfl
        rotate_left
        ·
         simp only [Act.put, List.setIfInBounds_toArray, List.set_cons_zero, List.set_cons_succ, i64_w, i32_w]
         rfl
        refine take_ (i := 7) (N := some 24) (v := ?_) (a' := ?_) laws_FnSchemaValid.m6 rfl rfl (take_ofW HT_.out HW_.out (by kernel_rfl)) (fun _ _ _ h => h) (Or.inl ⟨by rfl, ?_⟩) hHeld ?_ ?_
        rotate_left
        ·
         rintro w' ⟨s0, s1⟩
         go_simp
         with_reducible rfl
        rotate_left
        ·
         simp only [Act.put, List.setIfInBounds_toArray, List.set_cons_zero, List.set_cons_succ, i64_w, i32_w]
         rfl
        refine join_ (σ := Value × Value × Value × Nat) 1 laws_FnSchemaValid.m7 (fun s_ => [(19, s_.1), (22, s_.2.1), (25, s_.2.2.1), (5, .pointer (some ⟨s_.2.2.2, 0, none⟩)), (26, .agg #[.slice Ao9 t187.length co9, s_.2.2.1])]) (fun s_ w' => (w'.cell? ⟨gb193, 0, none⟩ = some (.slice Ao9 t187.length co9) ∧ w'.cell? ⟨gb193, 1, none⟩ = some (.slice Ao11 t190.length co11)) ∧ (Kd.Q k83 83 w' w.heap.size (fun k_ => some k_ ≠ (.slice Ao11 t190.length co11 : Value).ownBlock ∧ some k_ ≠ (s_.2.2.1 : Value).ownBlock) (.slice Ao9 t187.length co9) t187) ∧ (Kd.R k83 83 w' w.heap.size (fun k_ => some k_ ≠ (.slice Ao9 t187.length co9 : Value).ownBlock ∧ some k_ ≠ (s_.2.2.1 : Value).ownBlock) (.slice Ao11 t190.length co11) t190) ∧ (Kd.R k83 83 w' w.heap.size (fun k_ => some k_ ≠ (.slice Ao9 t187.length co9 : Value).ownBlock ∧ some k_ ≠ (.slice Ao11 t190.length co11 : Value).ownBlock) s_.2.2.1 y202) ∧ (w'.heap[gb193]? = some (.cells #[.slice Ao9 t187.length co9, .slice Ao11 t190.length co11] 25 (0, 0))) ∧ (w'.heap[s_.2.2.2]? = some (.cells #[.slice none 0 0, .slice none 0 0] 25 (0, 0))) ∧ (w.heap.size ≤ s_.2.2.2) ∧ (w.heap.size ≤ s_.2.2.2) ∧ (gb193 ≠ s_.2.2.2) ∧ (s_.2.2.2 ≠ gb193) ∧ (Below w.heap.size w w')) ?_ ?_
        rotate_left
        ·
         intro hCont
         refine two_ (i := 2) (j := 10) (Ni := some 19) (Nj := some 5) laws_FnSchemaValid.m8 laws_FnSchemaValid.m9 rfl rfl rfl rfl (two_of HT_.out (by kernel_rfl)) (by decide) (by decide) (fun K hK => ?_) (fun K hK => ?_)
         ·
          skip
          refine Kd.R_lit_step k83 _ 83 ?hg (N := 19) ?hd (xs := ([] : List (S83))) (inner := []) (ok := fun _ => True) (okp := fun _ => True) ?hr ?hp (fun _ hk => hk) trivial (Below.refl _ _) (Nat.le_refl _) (by simp) ?_; (case hd => rfl); (case hg => rfl); (case hr => first | (go_simp; done) | (go_simp; rfl)); (case hp => exact (Reps.none _ _))
          intro v197 w42 ho43 hb hg_ hnew_
          clear hg_ hnew_
          (first | rw [← Ny196.out] at ho43 | (simp only [Int.reduceToNat] at ho43; rw [← Ny196.out] at ho43))
          have n0_ := Aside0.mk (Kd.Q_elder' (by exact Kd.xQ HO189.out) (Kd.R_base ho43) hb)
          have n1_ := Aside0.mk (Kd.R_elder' (by exact Kd.xR HO192.out) (Kd.R_base ho43) hb)
          have n2_ := Aside0.mk (Kd.R_lower (Kd.R_new' (Kd.R_new' ho43 (Kd.Q_lt (by exact Kd.xQ HO189.out))) (Kd.R_lt (by exact Kd.xR HO192.out))) (below_size (by exact bw HB.out)))
          have n3_ := Aside0.mk (blk_below (g := gb193) (o := .cells #[.slice Ao9 t187.length co9, .slice Ao11 t190.length co11] 25 (0, 0)) (by exact bk BK193.out) hb)
          have n4_ := Aside0.mk (below_step (by exact bw HB.out) hb)
          clear HO189
          clear HO192
          clear BK193
          clear HB
          have HO189 := n0_
          have HO192 := n1_
          have HO198 := n2_
          have BK193 := n3_
          have HB := n4_
          clear n0_ n1_ n2_ n3_ n4_
          clear hb ho43
          refine hK.out _ _ ⟨(blk_cell BK193.out 0).trans rfl, (blk_cell BK193.out 1).trans rfl⟩ (fun hHeld => ?_)
          clear hK K
          refine norm_ (a' := ?_) ?_ ?_
          rotate_left
          ·
           show Act.put _ (some 19) _ = _
           simp only [Act.put, List.setIfInBounds_toArray, List.set_cons_zero, List.set_cons_succ, i64_w, i32_w]
           rfl
          refine two_ (i := 5) (j := 10) (Ni := some 22) (Nj := some 5) laws_FnSchemaValid.m10 laws_FnSchemaValid.m11 rfl rfl rfl rfl (two_of HT_.out (by kernel_rfl)) (by decide) (by decide) (fun K hK => ?_) (fun K hK => ?_)
          ·
           skip
           refine Kd.R_append_rows_step k83 (w0 := w) w.heap.size (by rfl) (.tmp 19) (.tmp 21) 23 83 (.agg #[(.string ⟨#[]⟩), (.int .i64 0)]) 24 rfl Try.underlying23 info83 rfl (by decide) (by omega) v197 y196 t190 _ _ _ (fun k_ => some k_ ≠ (.slice Ao9 t187.length co9 : Value).ownBlock ∧ some k_ ≠ (.slice Ao11 t190.length co11 : Value).ownBlock) (fun _ => False) rfl rfl ?aO ?aR (fun _ _ h => h) (fun _ h => h.elim) ?aF ?aB ?aS ?aL ?_
           (case aR => repeat (first | exact (Kd.R_reads' HO192.out).2.2 | (with_reducible refine Kd.C_alloc ?_ _) | (with_reducible refine Kd.C_drewN ?_ _) | (with_reducible refine Kd.C_drew ?_)))
           (case aB => exact (by exact bw HB.out))
           (case aF => exact (fun k_ hk => ⟨Kd.fresh' (Kd.Q_lt (by exact Kd.xQ HO189.out)) k_ hk, Kd.fresh' (Kd.R_lt (by exact Kd.xR HO192.out)) k_ hk⟩))
           (case aO => exact (by (with_reducible repeat (first | apply Kd.R_alloc | apply Kd.R_drewN | apply Kd.R_drew)); exact Kd.R_mono HO198.out (fun _ hk => okp hk)))
           (case aS => exact (below_size (by exact bw HB.out)))
           (case aL => have := LMc18.out; omega)
           intro v200 w44 ho hb hg hat
           rw [← Ny199.out] at ho
           have n0_ := Aside0.mk (Kd.Q_after (ok := (fun k_ => some k_ ≠ (.slice Ao11 t190.length co11 : Value).ownBlock)) (by exact Kd.xQ HO189.out) hg hat)
           have n1_ := Aside0.mk (Kd.R_after (ok := (fun k_ => some k_ ≠ (.slice Ao9 t187.length co9 : Value).ownBlock)) (by exact Kd.xR HO192.out) hg hat)
           have n2_ := Aside0.mk (blk_grown (g := gb193) (o := .cells #[.slice Ao9 t187.length co9, .slice Ao11 t190.length co11] 25 (0, 0)) (by exact bk BK193.out) hg (Kd.R_ne HO198.out BK193.out (by decide)))
           have n3_ := Aside0.mk (hb)
           have n4_ := Aside0.mk (ho)
           clear HO189
           clear HO192
           clear BK193
           clear HB
           clear HO198
           have HO189 := n0_
           have HO192 := n1_
           have BK193 := n2_
           have HB := n3_
           have HO201 := n4_
           clear n0_ n1_ n2_ n3_ n4_
           clear ho hb hg hat
           refine hK.out _ _ ⟨(blk_cell BK193.out 0).trans rfl, (blk_cell BK193.out 1).trans rfl⟩ (fun hHeld => ?_)
           clear hK K
           refine norm_ (a' := ?_) ?_ ?_
           rotate_left
           ·
            show Act.put _ (some 22) _ = _
            simp only [Act.put, List.setIfInBounds_toArray, List.set_cons_zero, List.set_cons_succ, i64_w, i32_w]
            rfl
           refine two_ (i := 8) (j := 10) (Ni := some 25) (Nj := some 5) laws_FnSchemaValid.m12 laws_FnSchemaValid.m13 rfl rfl rfl rfl (two_of HT_.out (by kernel_rfl)) (by decide) (by decide) (fun K hK => ?_) (fun K hK => ?_)
           ·
            skip
            refine Kd.R_append_rows_step k83 (w0 := w) w.heap.size (by rfl) (.tmp 22) (.tmp 24) 23 83 (.agg #[(.string ⟨#[]⟩), (.int .i64 0)]) 24 rfl Try.underlying23 info83 rfl (by decide) (by omega) v200 y199 t190 _ _ _ (fun k_ => some k_ ≠ (.slice Ao9 t187.length co9 : Value).ownBlock ∧ some k_ ≠ (.slice Ao11 t190.length co11 : Value).ownBlock) (fun _ => False) rfl rfl ?aO ?aR (fun _ _ h => h) (fun _ h => h.elim) ?aF ?aB ?aS ?aL ?_
            (case aR => repeat (first | exact (Kd.R_reads' HO192.out).2.2 | (with_reducible refine Kd.C_alloc ?_ _) | (with_reducible refine Kd.C_drewN ?_ _) | (with_reducible refine Kd.C_drew ?_)))
            (case aB => exact (by exact bw HB.out))
            (case aF => exact (fun k_ hk => ⟨Kd.fresh' (Kd.Q_lt (by exact Kd.xQ HO189.out)) k_ hk, Kd.fresh' (Kd.R_lt (by exact Kd.xR HO192.out)) k_ hk⟩))
            (case aO => exact (by exact Kd.xR HO201.out))
            (case aS => exact (below_size (by exact bw HB.out)))
            (case aL => have := LMc19.out; omega)
            intro v203 w45 ho hb hg hat
            rw [← Ny202.out] at ho
            have n0_ := Aside0.mk (Kd.Q_after (ok := (fun k_ => some k_ ≠ (.slice Ao11 t190.length co11 : Value).ownBlock)) (by exact Kd.xQ HO189.out) hg hat)
            have n1_ := Aside0.mk (Kd.R_after (ok := (fun k_ => some k_ ≠ (.slice Ao9 t187.length co9 : Value).ownBlock)) (by exact Kd.xR HO192.out) hg hat)
            have n2_ := Aside0.mk (blk_grown (g := gb193) (o := .cells #[.slice Ao9 t187.length co9, .slice Ao11 t190.length co11] 25 (0, 0)) (by exact bk BK193.out) hg (Kd.R_ne HO201.out BK193.out (by decide)))
            have n3_ := Aside0.mk (hb)
            have n4_ := Aside0.mk (ho)
            clear HO189
            clear HO192
            clear BK193
            clear HB
            clear HO201
            have HO189 := n0_
            have HO192 := n1_
            have BK193 := n2_
            have HB := n3_
            have HO204 := n4_
            clear n0_ n1_ n2_ n3_ n4_
            clear ho hb hg hat
            obtain ⟨Ao46, co46, eo46⟩ := Kd.R_slice HO204.out
            (first | subst eo46 | (injection eo46 with f1_ f2_ f3_; have f4_ := f1_.symm; have f5_ := f3_.symm; clear f1_ f2_ f3_; subst f4_; subst f5_))
            refine hK.out _ _ ⟨(blk_cell BK193.out 0).trans rfl, (blk_cell BK193.out 1).trans rfl⟩ (fun hHeld => ?_)
            clear hK K
            refine norm_ (a' := ?_) ?_ ?_
            rotate_left
            ·
             show Act.put _ (some 25) _ = _
             simp only [Act.put, List.setIfInBounds_toArray, List.set_cons_zero, List.set_cons_succ, i64_w, i32_w]
             rfl
            refine pure_ (i := 9) (N := some 26) (v := ?_) (a' := ?_) laws_FnSchemaValid.m14 rfl rfl (any_of HT_.out (by kernel_rfl)) (fun _ _ _ h => h) (Or.inl ⟨by rfl, ?_⟩) ?_ ?_
            rotate_left
            ·
             intro w'
             go_simp
             with_reducible rfl
            rotate_left
            ·
             simp only [Act.put, List.setIfInBounds_toArray, List.set_cons_zero, List.set_cons_succ, i64_w, i32_w]
             rfl
            refine one_ (i := 10) (N := some 5) laws_FnSchemaValid.m7 rfl rfl (one_of HT_.out (by kernel_rfl)) (by decide) (fun K hK => ?_)
            refine box_step ?hg (N := 5) ?hd (cs := #[.slice none 0 0, .slice none 0 0]) (t := 25) ?hr ?_; (case hd => rfl); (case hg => rfl); (case hr => first | (go_simp; done) | (go_simp; rfl))
            intro gb205 hg w47 hbox hb
            have n0_ := Aside0.mk (Kd.Q_below (by exact Kd.xQ HO189.out) hb)
            have n1_ := Aside0.mk (Kd.R_below (by exact Kd.xR HO192.out) hb)
            have n2_ := Aside0.mk (Kd.R_below (by exact Kd.xR HO204.out) hb)
            have n3_ := Aside0.mk (blk_below (g := gb193) (o := .cells #[.slice Ao9 t187.length co9, .slice Ao11 t190.length co11] 25 (0, 0)) (by exact bk BK193.out) hb)
            have n4_ := Aside0.mk (below_step (by exact bw HB.out) hb)
            have n5_ := Aside0.mk (hbox)
            have n6_ := Aside0.mk ((by rw [hg]; exact (below_size (by exact bw HB.out)) : w.heap.size ≤ gb205))
            have n7_ := Aside0.mk ((by rw [hg]; exact (below_size (by exact bw HB.out)) : w.heap.size ≤ gb205))
            have n8_ := Aside0.mk ((by rw [hg]; exact Nat.ne_of_lt (blk_lt (g := gb193) (o := .cells #[.slice Ao9 t187.length co9, .slice Ao11 t190.length co11] 25 (0, 0)) (by exact bk BK193.out)) : gb193 ≠ gb205))
            have n9_ := Aside0.mk ((by rw [hg]; exact Nat.ne_of_gt (blk_lt (g := gb193) (o := .cells #[.slice Ao9 t187.length co9, .slice Ao11 t190.length co11] 25 (0, 0)) (by exact bk BK193.out)) : gb205 ≠ gb193))
            clear HO189
            clear HO192
            clear HO204
            clear BK193
            clear HB
            have HO189 := n0_
            have HO192 := n1_
            have HO204 := n2_
            have BK193 := n3_
            have HB := n4_
            have BK205 := n5_
            have GW205 := n6_
            have GE205 := n7_
            have NB193_205 := n8_
            have NB205_193 := n9_
            clear n0_ n1_ n2_ n3_ n4_ n5_ n6_ n7_ n8_ n9_
            clear hb hbox hg
            refine hK.out _ _ ⟨(blk_cell BK193.out 0).trans rfl, (blk_cell BK193.out 1).trans rfl⟩ (fun hHeld => ?_)
            clear hK K
            refine norm_ (a' := ?_) ?_ ?_
            rotate_left
            ·
             show Act.put _ (some 5) _ = _
             simp only [Act.put, List.setIfInBounds_toArray, List.set_cons_zero, List.set_cons_succ, i64_w, i32_w]
             rfl
            exact norm_ (by simp only [putAll, Act.put, List.setIfInBounds_toArray, List.set_cons_zero, List.set_cons_succ]) (hCont (v197, v200, .slice Ao46 y202.length co46, gb205) _ ⟨hHeld, (by exact Kd.xQ HO189.out), (by exact Kd.xR HO192.out), (by exact Kd.xR HO204.out), (by exact bk BK193.out), (by exact bk BK205.out), GW205.out, GE205.out, NB193_205.out, NB205_193.out, (by exact bw HB.out)⟩)
           ·
            skip
            refine box_step ?hg (N := 5) ?hd (cs := #[.slice none 0 0, .slice none 0 0]) (t := 25) ?hr ?_; (case hd => rfl); (case hg => rfl); (case hr => first | (go_simp; done) | (go_simp; rfl))
            intro gb205 hg w45 hbox hb
            have n0_ := Aside0.mk (Kd.Q_below (by exact Kd.xQ HO189.out) hb)
            have n1_ := Aside0.mk (Kd.R_below (by exact Kd.xR HO192.out) hb)
            have n2_ := Aside0.mk (Kd.R_below (by exact Kd.xR HO201.out) hb)
            have n3_ := Aside0.mk (blk_below (g := gb193) (o := .cells #[.slice Ao9 t187.length co9, .slice Ao11 t190.length co11] 25 (0, 0)) (by exact bk BK193.out) hb)
            have n4_ := Aside0.mk (below_step (by exact bw HB.out) hb)
            have n5_ := Aside0.mk (hbox)
            have n6_ := Aside0.mk ((by rw [hg]; exact (below_size (by exact bw HB.out)) : w.heap.size ≤ gb205))
            have n7_ := Aside0.mk ((by rw [hg]; exact (below_size (by exact bw HB.out)) : w.heap.size ≤ gb205))
            have n8_ := Aside0.mk ((by rw [hg]; exact Nat.ne_of_lt (blk_lt (g := gb193) (o := .cells #[.slice Ao9 t187.length co9, .slice Ao11 t190.length co11] 25 (0, 0)) (by exact bk BK193.out)) : gb193 ≠ gb205))
            have n9_ := Aside0.mk ((by rw [hg]; exact Nat.ne_of_gt (blk_lt (g := gb193) (o := .cells #[.slice Ao9 t187.length co9, .slice Ao11 t190.length co11] 25 (0, 0)) (by exact bk BK193.out)) : gb205 ≠ gb193))
            clear HO189
            clear HO192
            clear HO201
            clear BK193
            clear HB
            have HO189 := n0_
            have HO192 := n1_
            have HO201 := n2_
            have BK193 := n3_
            have HB := n4_
            have BK205 := n5_
            have GW205 := n6_
            have GE205 := n7_
            have NB193_205 := n8_
            have NB205_193 := n9_
            clear n0_ n1_ n2_ n3_ n4_ n5_ n6_ n7_ n8_ n9_
            clear hb hbox hg
            refine hK.out _ _ ⟨(blk_cell BK193.out 0).trans rfl, (blk_cell BK193.out 1).trans rfl⟩ (fun hHeld => ?_)
            clear hK K
            refine norm_ (a' := ?_) ?_ ?_
            rotate_left
            ·
             show Act.put _ (some 5) _ = _
             simp only [Act.put, List.setIfInBounds_toArray, List.set_cons_zero, List.set_cons_succ, i64_w, i32_w]
             rfl
            refine one_ (i := 8) (N := some 25) laws_FnSchemaValid.m15 rfl rfl (one_of HT_.out (by kernel_rfl)) (by decide) (fun K hK => ?_)
            refine Kd.R_append_rows_step k83 (w0 := w) w.heap.size (by rfl) (.tmp 22) (.tmp 24) 23 83 (.agg #[(.string ⟨#[]⟩), (.int .i64 0)]) 24 rfl Try.underlying23 info83 rfl (by decide) (by omega) v200 y199 t190 _ _ _ (fun k_ => some k_ ≠ (.slice Ao9 t187.length co9 : Value).ownBlock ∧ some k_ ≠ (.slice Ao11 t190.length co11 : Value).ownBlock) (fun _ => False) rfl rfl ?aO ?aR (fun _ _ h => h) (fun _ h => h.elim) ?aF ?aB ?aS ?aL ?_
            (case aR => repeat (first | exact (Kd.R_reads' HO192.out).2.2 | (with_reducible refine Kd.C_alloc ?_ _) | (with_reducible refine Kd.C_drewN ?_ _) | (with_reducible refine Kd.C_drew ?_)))
            (case aB => exact (by exact bw HB.out))
            (case aF => exact (fun k_ hk => ⟨Kd.fresh' (Kd.Q_lt (by exact Kd.xQ HO189.out)) k_ hk, Kd.fresh' (Kd.R_lt (by exact Kd.xR HO192.out)) k_ hk⟩))
            (case aO => exact (by exact Kd.xR HO201.out))
            (case aS => exact (below_size (by exact bw HB.out)))
            (case aL => have := LMc19.out; omega)
            intro v203 w46 ho hb hg hat
            rw [← Ny202.out] at ho
            have n0_ := Aside0.mk (Kd.Q_after (ok := (fun k_ => some k_ ≠ (.slice Ao11 t190.length co11 : Value).ownBlock)) (by exact Kd.xQ HO189.out) hg hat)
            have n1_ := Aside0.mk (Kd.R_after (ok := (fun k_ => some k_ ≠ (.slice Ao9 t187.length co9 : Value).ownBlock)) (by exact Kd.xR HO192.out) hg hat)
            have n2_ := Aside0.mk (blk_grown (g := gb193) (o := .cells #[.slice Ao9 t187.length co9, .slice Ao11 t190.length co11] 25 (0, 0)) (by exact bk BK193.out) hg (Kd.R_ne HO201.out BK193.out (by decide)))
            have n3_ := Aside0.mk (blk_grown (g := gb205) (o := .cells #[.slice none 0 0, .slice none 0 0] 25 (0, 0)) (by exact bk BK205.out) hg (Kd.R_ne HO201.out BK205.out (by decide)))
            have n4_ := Aside0.mk (hb)
            have n5_ := Aside0.mk (ho)
            clear HO189
            clear HO192
            clear BK193
            clear BK205
            clear HB
            clear HO201
            have HO189 := n0_
            have HO192 := n1_
            have BK193 := n2_
            have BK205 := n3_
            have HB := n4_
            have HO204 := n5_
            clear n0_ n1_ n2_ n3_ n4_ n5_
            clear ho hb hg hat
            obtain ⟨Ao47, co47, eo47⟩ := Kd.R_slice HO204.out
            (first | subst eo47 | (injection eo47 with f1_ f2_ f3_; have f4_ := f1_.symm; have f5_ := f3_.symm; clear f1_ f2_ f3_; subst f4_; subst f5_))
            refine hK.out _ _ ⟨(blk_cell BK193.out 0).trans rfl, (blk_cell BK193.out 1).trans rfl⟩ (fun hHeld => ?_)
            clear hK K
            refine norm_ (a' := ?_) ?_ ?_
            rotate_left
            ·
             show Act.put _ (some 25) _ = _
             simp only [Act.put, List.setIfInBounds_toArray, List.set_cons_zero, List.set_cons_succ, i64_w, i32_w]
             rfl
            refine pure_ (i := 9) (N := some 26) (v := ?_) (a' := ?_) laws_FnSchemaValid.m7 rfl rfl (any_of HT_.out (by kernel_rfl)) (fun _ _ _ h => h) (Or.inl ⟨by rfl, ?_⟩) ?_ ?_
            rotate_left
            ·
             intro w'
             go_simp
             with_reducible rfl
            rotate_left
            ·
             simp only [Act.put, List.setIfInBounds_toArray, List.set_cons_zero, List.set_cons_succ, i64_w, i32_w]
             rfl
            exact norm_ (by simp only [putAll, Act.put, List.setIfInBounds_toArray, List.set_cons_zero, List.set_cons_succ]) (hCont (v197, v200, .slice Ao47 y202.length co47, gb205) _ ⟨hHeld, (by exact Kd.xQ HO189.out), (by exact Kd.xR HO192.out), (by exact Kd.xR HO204.out), (by exact bk BK193.out), (by exact bk BK205.out), GW205.out, GE205.out, NB193_205.out, NB205_193.out, (by exact bw HB.out)⟩)
          ·
           skip
           refine box_step ?hg (N := 5) ?hd (cs := #[.slice none 0 0, .slice none 0 0]) (t := 25) ?hr ?_; (case hd => rfl); (case hg => rfl); (case hr => first | (go_simp; done) | (go_simp; rfl))
           intro gb205 hg w44 hbox hb
           have n0_ := Aside0.mk (Kd.Q_below (by exact Kd.xQ HO189.out) hb)
           have n1_ := Aside0.mk (Kd.R_below (by exact Kd.xR HO192.out) hb)
           have n2_ := Aside0.mk (Kd.R_below (by exact Kd.xR HO198.out) hb)
           have n3_ := Aside0.mk (blk_below (g := gb193) (o := .cells #[.slice Ao9 t187.length co9, .slice Ao11 t190.length co11] 25 (0, 0)) (by exact bk BK193.out) hb)
           have n4_ := Aside0.mk (below_step (by exact bw HB.out) hb)
           have n5_ := Aside0.mk (hbox)
           have n6_ := Aside0.mk ((by rw [hg]; exact (below_size (by exact bw HB.out)) : w.heap.size ≤ gb205))
           have n7_ := Aside0.mk ((by rw [hg]; exact (below_size (by exact bw HB.out)) : w.heap.size ≤ gb205))
           have n8_ := Aside0.mk ((by rw [hg]; exact Nat.ne_of_lt (blk_lt (g := gb193) (o := .cells #[.slice Ao9 t187.length co9, .slice Ao11 t190.length co11] 25 (0, 0)) (by exact bk BK193.out)) : gb193 ≠ gb205))
           have n9_ := Aside0.mk ((by rw [hg]; exact Nat.ne_of_gt (blk_lt (g := gb193) (o := .cells #[.slice Ao9 t187.length co9, .slice Ao11 t190.length co11] 25 (0, 0)) (by exact bk BK193.out)) : gb205 ≠ gb193))
           clear HO189
           clear HO192
           clear HO198
           clear BK193
           clear HB
           have HO189 := n0_
           have HO192 := n1_
           have HO198 := n2_
           have BK193 := n3_
           have HB := n4_
           have BK205 := n5_
           have GW205 := n6_
           have GE205 := n7_
           have NB193_205 := n8_
           have NB205_193 := n9_
           clear n0_ n1_ n2_ n3_ n4_ n5_ n6_ n7_ n8_ n9_
           clear hb hbox hg
           refine hK.out _ _ ⟨(blk_cell BK193.out 0).trans rfl, (blk_cell BK193.out 1).trans rfl⟩ (fun hHeld => ?_)
           clear hK K
           refine norm_ (a' := ?_) ?_ ?_
           rotate_left
           ·
            show Act.put _ (some 5) _ = _
            simp only [Act.put, List.setIfInBounds_toArray, List.set_cons_zero, List.set_cons_succ, i64_w, i32_w]
            rfl
           refine one_ (i := 5) (N := some 22) laws_FnSchemaValid.m13 rfl rfl (one_of HT_.out (by kernel_rfl)) (by decide) (fun K hK => ?_)
           refine Kd.R_append_rows_step k83 (w0 := w) w.heap.size (by rfl) (.tmp 19) (.tmp 21) 23 83 (.agg #[(.string ⟨#[]⟩), (.int .i64 0)]) 24 rfl Try.underlying23 info83 rfl (by decide) (by omega) v197 y196 t190 _ _ _ (fun k_ => some k_ ≠ (.slice Ao9 t187.length co9 : Value).ownBlock ∧ some k_ ≠ (.slice Ao11 t190.length co11 : Value).ownBlock) (fun _ => False) rfl rfl ?aO ?aR (fun _ _ h => h) (fun _ h => h.elim) ?aF ?aB ?aS ?aL ?_
           (case aR => repeat (first | exact (Kd.R_reads' HO192.out).2.2 | (with_reducible refine Kd.C_alloc ?_ _) | (with_reducible refine Kd.C_drewN ?_ _) | (with_reducible refine Kd.C_drew ?_)))
           (case aB => exact (by exact bw HB.out))
           (case aF => exact (fun k_ hk => ⟨Kd.fresh' (Kd.Q_lt (by exact Kd.xQ HO189.out)) k_ hk, Kd.fresh' (Kd.R_lt (by exact Kd.xR HO192.out)) k_ hk⟩))
           (case aO => exact (by (with_reducible repeat (first | apply Kd.R_alloc | apply Kd.R_drewN | apply Kd.R_drew)); exact Kd.R_mono HO198.out (fun _ hk => okp hk)))
           (case aS => exact (below_size (by exact bw HB.out)))
           (case aL => have := LMc18.out; omega)
           intro v200 w45 ho hb hg hat
           rw [← Ny199.out] at ho
           have n0_ := Aside0.mk (Kd.Q_after (ok := (fun k_ => some k_ ≠ (.slice Ao11 t190.length co11 : Value).ownBlock)) (by exact Kd.xQ HO189.out) hg hat)
           have n1_ := Aside0.mk (Kd.R_after (ok := (fun k_ => some k_ ≠ (.slice Ao9 t187.length co9 : Value).ownBlock)) (by exact Kd.xR HO192.out) hg hat)
           have n2_ := Aside0.mk (blk_grown (g := gb193) (o := .cells #[.slice Ao9 t187.length co9, .slice Ao11 t190.length co11] 25 (0, 0)) (by exact bk BK193.out) hg (Kd.R_ne HO198.out BK193.out (by decide)))
           have n3_ := Aside0.mk (blk_grown (g := gb205) (o := .cells #[.slice none 0 0, .slice none 0 0] 25 (0, 0)) (by exact bk BK205.out) hg (Kd.R_ne HO198.out BK205.out (by decide)))
           have n4_ := Aside0.mk (hb)
           have n5_ := Aside0.mk (ho)
           clear HO189
           clear HO192
           clear BK193
           clear BK205
           clear HB
           clear HO198
           have HO189 := n0_
           have HO192 := n1_
           have BK193 := n2_
           have BK205 := n3_
           have HB := n4_
           have HO201 := n5_
           clear n0_ n1_ n2_ n3_ n4_ n5_
           clear ho hb hg hat
           refine hK.out _ _ ⟨(blk_cell BK193.out 0).trans rfl, (blk_cell BK193.out 1).trans rfl⟩ (fun hHeld => ?_)
           clear hK K
           refine norm_ (a' := ?_) ?_ ?_
           rotate_left
           ·
            show Act.put _ (some 22) _ = _
            simp only [Act.put, List.setIfInBounds_toArray, List.set_cons_zero, List.set_cons_succ, i64_w, i32_w]
            rfl
           refine one_ (i := 8) (N := some 25) laws_FnSchemaValid.m15 rfl rfl (one_of HT_.out (by kernel_rfl)) (by decide) (fun K hK => ?_)
           refine Kd.R_append_rows_step k83 (w0 := w) w.heap.size (by rfl) (.tmp 22) (.tmp 24) 23 83 (.agg #[(.string ⟨#[]⟩), (.int .i64 0)]) 24 rfl Try.underlying23 info83 rfl (by decide) (by omega) v200 y199 t190 _ _ _ (fun k_ => some k_ ≠ (.slice Ao9 t187.length co9 : Value).ownBlock ∧ some k_ ≠ (.slice Ao11 t190.length co11 : Value).ownBlock) (fun _ => False) rfl rfl ?aO ?aR (fun _ _ h => h) (fun _ h => h.elim) ?aF ?aB ?aS ?aL ?_
           (case aR => repeat (first | exact (Kd.R_reads' HO192.out).2.2 | (with_reducible refine Kd.C_alloc ?_ _) | (with_reducible refine Kd.C_drewN ?_ _) | (with_reducible refine Kd.C_drew ?_)))
           (case aB => exact (by exact bw HB.out))
           (case aF => exact (fun k_ hk => ⟨Kd.fresh' (Kd.Q_lt (by exact Kd.xQ HO189.out)) k_ hk, Kd.fresh' (Kd.R_lt (by exact Kd.xR HO192.out)) k_ hk⟩))
           (case aO => exact (by exact Kd.xR HO201.out))
           (case aS => exact (below_size (by exact bw HB.out)))
           (case aL => have := LMc19.out; omega)
           intro v203 w46 ho hb hg hat
           rw [← Ny202.out] at ho
           have n0_ := Aside0.mk (Kd.Q_after (ok := (fun k_ => some k_ ≠ (.slice Ao11 t190.length co11 : Value).ownBlock)) (by exact Kd.xQ HO189.out) hg hat)
           have n1_ := Aside0.mk (Kd.R_after (ok := (fun k_ => some k_ ≠ (.slice Ao9 t187.length co9 : Value).ownBlock)) (by exact Kd.xR HO192.out) hg hat)
           have n2_ := Aside0.mk (blk_grown (g := gb193) (o := .cells #[.slice Ao9 t187.length co9, .slice Ao11 t190.length co11] 25 (0, 0)) (by exact bk BK193.out) hg (Kd.R_ne HO201.out BK193.out (by decide)))
           have n3_ := Aside0.mk (blk_grown (g := gb205) (o := .cells #[.slice none 0 0, .slice none 0 0] 25 (0, 0)) (by exact bk BK205.out) hg (Kd.R_ne HO201.out BK205.out (by decide)))
           have n4_ := Aside0.mk (hb)
           have n5_ := Aside0.mk (ho)
           clear HO189
           clear HO192
           clear BK193
           clear BK205
           clear HB
           clear HO201
           have HO189 := n0_
           have HO192 := n1_
           have BK193 := n2_
           have BK205 := n3_
           have HB := n4_
           have HO204 := n5_
           clear n0_ n1_ n2_ n3_ n4_ n5_
           clear ho hb hg hat
           obtain ⟨Ao47, co47, eo47⟩ := Kd.R_slice HO204.out
           (first | subst eo47 | (injection eo47 with f1_ f2_ f3_; have f4_ := f1_.symm; have f5_ := f3_.symm; clear f1_ f2_ f3_; subst f4_; subst f5_))
           refine hK.out _ _ ⟨(blk_cell BK193.out 0).trans rfl, (blk_cell BK193.out 1).trans rfl⟩ (fun hHeld => ?_)
           clear hK K
           refine norm_ (a' := ?_) ?_ ?_
           rotate_left
           ·
            show Act.put _ (some 25) _ = _
            simp only [Act.put, List.setIfInBounds_toArray, List.set_cons_zero, List.set_cons_succ, i64_w, i32_w]
            rfl
           refine pure_ (i := 9) (N := some 26) (v := ?_) (a' := ?_) laws_FnSchemaValid.m7 rfl rfl (any_of HT_.out (by kernel_rfl)) (fun _ _ _ h => h) (Or.inl ⟨by rfl, ?_⟩) ?_ ?_
           rotate_left
           ·
            intro w'
            go_simp
            with_reducible rfl
           rotate_left
           ·
            simp only [Act.put, List.setIfInBounds_toArray, List.set_cons_zero, List.set_cons_succ, i64_w, i32_w]
            rfl
           exact norm_ (by simp only [putAll, Act.put, List.setIfInBounds_toArray, List.set_cons_zero, List.set_cons_succ]) (hCont (v197, v200, .slice Ao47 y202.length co47, gb205) _ ⟨hHeld, (by exact Kd.xQ HO189.out), (by exact Kd.xR HO192.out), (by exact Kd.xR HO204.out), (by exact bk BK193.out), (by exact bk BK205.out), GW205.out, GE205.out, NB193_205.out, NB205_193.out, (by exact bw HB.out)⟩)
         ·
          skip
          refine box_step ?hg (N := 5) ?hd (cs := #[.slice none 0 0, .slice none 0 0]) (t := 25) ?hr ?_; (case hd => rfl); (case hg => rfl); (case hr => first | (go_simp; done) | (go_simp; rfl))
          intro gb205 hg w42 hbox hb
          have n0_ := Aside0.mk (Kd.Q_below (by exact Kd.xQ HO189.out) hb)
          have n1_ := Aside0.mk (Kd.R_below (by exact Kd.xR HO192.out) hb)
          have n2_ := Aside0.mk (blk_below (g := gb193) (o := .cells #[.slice Ao9 t187.length co9, .slice Ao11 t190.length co11] 25 (0, 0)) (by exact bk BK193.out) hb)
          have n3_ := Aside0.mk (below_step (by exact bw HB.out) hb)
          have n4_ := Aside0.mk (hbox)
          have n5_ := Aside0.mk ((by rw [hg]; exact (below_size (by exact bw HB.out)) : w.heap.size ≤ gb205))
          have n6_ := Aside0.mk ((by rw [hg]; exact (below_size (by exact bw HB.out)) : w.heap.size ≤ gb205))
          have n7_ := Aside0.mk ((by rw [hg]; exact Nat.ne_of_lt (blk_lt (g := gb193) (o := .cells #[.slice Ao9 t187.length co9, .slice Ao11 t190.length co11] 25 (0, 0)) (by exact bk BK193.out)) : gb193 ≠ gb205))
          have n8_ := Aside0.mk ((by rw [hg]; exact Nat.ne_of_gt (blk_lt (g := gb193) (o := .cells #[.slice Ao9 t187.length co9, .slice Ao11 t190.length co11] 25 (0, 0)) (by exact bk BK193.out)) : gb205 ≠ gb193))
          clear HO189
          clear HO192
          clear BK193
          clear HB
          have HO189 := n0_
          have HO192 := n1_
          have BK193 := n2_
          have HB := n3_
          have BK205 := n4_
          have GW205 := n5_
          have GE205 := n6_
          have NB193_205 := n7_
          have NB205_193 := n8_
          clear n0_ n1_ n2_ n3_ n4_ n5_ n6_ n7_ n8_
          clear hb hbox hg
          refine hK.out _ _ ⟨(blk_cell BK193.out 0).trans rfl, (blk_cell BK193.out 1).trans rfl⟩ (fun hHeld => ?_)
          clear hK K
          refine norm_ (a' := ?_) ?_ ?_
          rotate_left
          ·
           show Act.put _ (some 5) _ = _
           simp only [Act.put, List.setIfInBounds_toArray, List.set_cons_zero, List.set_cons_succ, i64_w, i32_w]
           rfl
          refine one_ (i := 2) (N := some 19) laws_FnSchemaValid.m11 rfl rfl (one_of HT_.out (by kernel_rfl)) (by decide) (fun K hK => ?_)
          refine Kd.R_lit_step k83 _ 83 ?hg (N := 19) ?hd (xs := ([] : List (S83))) (inner := []) (ok := fun _ => True) (okp := fun _ => True) ?hr ?hp (fun _ hk => hk) trivial (Below.refl _ _) (Nat.le_refl _) (by simp) ?_; (case hd => rfl); (case hg => rfl); (case hr => first | (go_simp; done) | (go_simp; rfl)); (case hp => exact (Reps.none _ _))
          intro v197 w43 ho44 hb hg_ hnew_
          clear hg_ hnew_
          (first | rw [← Ny196.out] at ho44 | (simp only [Int.reduceToNat] at ho44; rw [← Ny196.out] at ho44))
          have n0_ := Aside0.mk (Kd.Q_elder' (by exact Kd.xQ HO189.out) (Kd.R_base ho44) hb)
          have n1_ := Aside0.mk (Kd.R_elder' (by exact Kd.xR HO192.out) (Kd.R_base ho44) hb)
          have n2_ := Aside0.mk (Kd.R_lower (Kd.R_new' (Kd.R_new' ho44 (Kd.Q_lt (by exact Kd.xQ HO189.out))) (Kd.R_lt (by exact Kd.xR HO192.out))) (below_size (by exact bw HB.out)))
          have n3_ := Aside0.mk (blk_below (g := gb193) (o := .cells #[.slice Ao9 t187.length co9, .slice Ao11 t190.length co11] 25 (0, 0)) (by exact bk BK193.out) hb)
          have n4_ := Aside0.mk (blk_below (g := gb205) (o := .cells #[.slice none 0 0, .slice none 0 0] 25 (0, 0)) (by exact bk BK205.out) hb)
          have n5_ := Aside0.mk (below_step (by exact bw HB.out) hb)
          clear HO189
          clear HO192
          clear BK193
          clear BK205
          clear HB
          have HO189 := n0_
          have HO192 := n1_
          have HO198 := n2_
          have BK193 := n3_
          have BK205 := n4_
          have HB := n5_
          clear n0_ n1_ n2_ n3_ n4_ n5_
          clear hb ho44
          refine hK.out _ _ ⟨(blk_cell BK193.out 0).trans rfl, (blk_cell BK193.out 1).trans rfl⟩ (fun hHeld => ?_)
          clear hK K
          refine norm_ (a' := ?_) ?_ ?_
          rotate_left
          ·
           show Act.put _ (some 19) _ = _
           simp only [Act.put, List.setIfInBounds_toArray, List.set_cons_zero, List.set_cons_succ, i64_w, i32_w]
           rfl
          refine one_ (i := 5) (N := some 22) laws_FnSchemaValid.m13 rfl rfl (one_of HT_.out (by kernel_rfl)) (by decide) (fun K hK => ?_)
          refine Kd.R_append_rows_step k83 (w0 := w) w.heap.size (by rfl) (.tmp 19) (.tmp 21) 23 83 (.agg #[(.string ⟨#[]⟩), (.int .i64 0)]) 24 rfl Try.underlying23 info83 rfl (by decide) (by omega) v197 y196 t190 _ _ _ (fun k_ => some k_ ≠ (.slice Ao9 t187.length co9 : Value).ownBlock ∧ some k_ ≠ (.slice Ao11 t190.length co11 : Value).ownBlock) (fun _ => False) rfl rfl ?aO ?aR (fun _ _ h => h) (fun _ h => h.elim) ?aF ?aB ?aS ?aL ?_
          (case aR => repeat (first | exact (Kd.R_reads' HO192.out).2.2 | (with_reducible refine Kd.C_alloc ?_ _) | (with_reducible refine Kd.C_drewN ?_ _) | (with_reducible refine Kd.C_drew ?_)))
          (case aB => exact (by exact bw HB.out))
          (case aF => exact (fun k_ hk => ⟨Kd.fresh' (Kd.Q_lt (by exact Kd.xQ HO189.out)) k_ hk, Kd.fresh' (Kd.R_lt (by exact Kd.xR HO192.out)) k_ hk⟩))
          (case aO => exact (by (with_reducible repeat (first | apply Kd.R_alloc | apply Kd.R_drewN | apply Kd.R_drew)); exact Kd.R_mono HO198.out (fun _ hk => okp hk)))
          (case aS => exact (below_size (by exact bw HB.out)))
          (case aL => have := LMc18.out; omega)
          intro v200 w45 ho hb hg hat
          rw [← Ny199.out] at ho
          have n0_ := Aside0.mk (Kd.Q_after (ok := (fun k_ => some k_ ≠ (.slice Ao11 t190.length co11 : Value).ownBlock)) (by exact Kd.xQ HO189.out) hg hat)
          have n1_ := Aside0.mk (Kd.R_after (ok := (fun k_ => some k_ ≠ (.slice Ao9 t187.length co9 : Value).ownBlock)) (by exact Kd.xR HO192.out) hg hat)
          have n2_ := Aside0.mk (blk_grown (g := gb193) (o := .cells #[.slice Ao9 t187.length co9, .slice Ao11 t190.length co11] 25 (0, 0)) (by exact bk BK193.out) hg (Kd.R_ne HO198.out BK193.out (by decide)))
          have n3_ := Aside0.mk (blk_grown (g := gb205) (o := .cells #[.slice none 0 0, .slice none 0 0] 25 (0, 0)) (by exact bk BK205.out) hg (Kd.R_ne HO198.out BK205.out (by decide)))
          have n4_ := Aside0.mk (hb)
          have n5_ := Aside0.mk (ho)
          clear HO189
          clear HO192
          clear BK193
          clear BK205
          clear HB
          clear HO198
          have HO189 := n0_
          have HO192 := n1_
          have BK193 := n2_
          have BK205 := n3_
          have HB := n4_
          have HO201 := n5_
          clear n0_ n1_ n2_ n3_ n4_ n5_
          clear ho hb hg hat
          refine hK.out _ _ ⟨(blk_cell BK193.out 0).trans rfl, (blk_cell BK193.out 1).trans rfl⟩ (fun hHeld => ?_)
          clear hK K
          refine norm_ (a' := ?_) ?_ ?_
          rotate_left
          ·
           show Act.put _ (some 22) _ = _
           simp only [Act.put, List.setIfInBounds_toArray, List.set_cons_zero, List.set_cons_succ, i64_w, i32_w]
           rfl
          refine one_ (i := 8) (N := some 25) laws_FnSchemaValid.m15 rfl rfl (one_of HT_.out (by kernel_rfl)) (by decide) (fun K hK => ?_)
          refine Kd.R_append_rows_step k83 (w0 := w) w.heap.size (by rfl) (.tmp 22) (.tmp 24) 23 83 (.agg #[(.string ⟨#[]⟩), (.int .i64 0)]) 24 rfl Try.underlying23 info83 rfl (by decide) (by omega) v200 y199 t190 _ _ _ (fun k_ => some k_ ≠ (.slice Ao9 t187.length co9 : Value).ownBlock ∧ some k_ ≠ (.slice Ao11 t190.length co11 : Value).ownBlock) (fun _ => False) rfl rfl ?aO ?aR (fun _ _ h => h) (fun _ h => h.elim) ?aF ?aB ?aS ?aL ?_
          (case aR => repeat (first | exact (Kd.R_reads' HO192.out).2.2 | (with_reducible refine Kd.C_alloc ?_ _) | (with_reducible refine Kd.C_drewN ?_ _) | (with_reducible refine Kd.C_drew ?_)))
          (case aB => exact (by exact bw HB.out))
          (case aF => exact (fun k_ hk => ⟨Kd.fresh' (Kd.Q_lt (by exact Kd.xQ HO189.out)) k_ hk, Kd.fresh' (Kd.R_lt (by exact Kd.xR HO192.out)) k_ hk⟩))
          (case aO => exact (by exact Kd.xR HO201.out))
          (case aS => exact (below_size (by exact bw HB.out)))
          (case aL => have := LMc19.out; omega)
          intro v203 w46 ho hb hg hat
          rw [← Ny202.out] at ho
          have n0_ := Aside0.mk (Kd.Q_after (ok := (fun k_ => some k_ ≠ (.slice Ao11 t190.length co11 : Value).ownBlock)) (by exact Kd.xQ HO189.out) hg hat)
          have n1_ := Aside0.mk (Kd.R_after (ok := (fun k_ => some k_ ≠ (.slice Ao9 t187.length co9 : Value).ownBlock)) (by exact Kd.xR HO192.out) hg hat)
          have n2_ := Aside0.mk (blk_grown (g := gb193) (o := .cells #[.slice Ao9 t187.length co9, .slice Ao11 t190.length co11] 25 (0, 0)) (by exact bk BK193.out) hg (Kd.R_ne HO201.out BK193.out (by decide)))
          have n3_ := Aside0.mk (blk_grown (g := gb205) (o := .cells #[.slice none 0 0, .slice none 0 0] 25 (0, 0)) (by exact bk BK205.out) hg (Kd.R_ne HO201.out BK205.out (by decide)))
          have n4_ := Aside0.mk (hb)
          have n5_ := Aside0.mk (ho)
          clear HO189
          clear HO192
          clear BK193
          clear BK205
          clear HB
          clear HO201
          have HO189 := n0_
          have HO192 := n1_
          have BK193 := n2_
          have BK205 := n3_
          have HB := n4_
          have HO204 := n5_
          clear n0_ n1_ n2_ n3_ n4_ n5_
          clear ho hb hg hat
          obtain ⟨Ao47, co47, eo47⟩ := Kd.R_slice HO204.out
          (first | subst eo47 | (injection eo47 with f1_ f2_ f3_; have f4_ := f1_.symm; have f5_ := f3_.symm; clear f1_ f2_ f3_; subst f4_; subst f5_))
          refine hK.out _ _ ⟨(blk_cell BK193.out 0).trans rfl, (blk_cell BK193.out 1).trans rfl⟩ (fun hHeld => ?_)
          clear hK K
          refine norm_ (a' := ?_) ?_ ?_
          rotate_left
          ·
           show Act.put _ (some 25) _ = _
           simp only [Act.put, List.setIfInBounds_toArray, List.set_cons_zero, List.set_cons_succ, i64_w, i32_w]
           rfl
          refine pure_ (i := 9) (N := some 26) (v := ?_) (a' := ?_) laws_FnSchemaValid.m7 rfl rfl (any_of HT_.out (by kernel_rfl)) (fun _ _ _ h => h) (Or.inl ⟨by rfl, ?_⟩) ?_ ?_
          rotate_left
          ·
           intro w'
           go_simp
           with_reducible rfl
          rotate_left
          ·
           simp only [Act.put, List.setIfInBounds_toArray, List.set_cons_zero, List.set_cons_succ, i64_w, i32_w]
           rfl
          exact norm_ (by simp only [putAll, Act.put, List.setIfInBounds_toArray, List.set_cons_zero, List.set_cons_succ]) (hCont (v197, v200, .slice Ao47 y202.length co47, gb205) _ ⟨hHeld, (by exact Kd.xQ HO189.out), (by exact Kd.xR HO192.out), (by exact Kd.xR HO204.out), (by exact bk BK193.out), (by exact bk BK205.out), GW205.out, GE205.out, NB193_205.out, NB205_193.out, (by exact bw HB.out)⟩)
        rintro ⟨v197, v200, v203, gb205⟩ w48 ⟨hS_, h0_, h1_, h2_, h3_, h4_, h5_, h6_, h7_, h8_, h9_⟩
        have n0_ : Aside0 (Kd.Q k83 83 w48 w.heap.size (fun k_ => some k_ ≠ (.slice Ao11 t190.length co11 : Value).ownBlock ∧ some k_ ≠ (v203 : Value).ownBlock) (.slice Ao9 t187.length co9) t187) := ⟨h0_⟩
        have n1_ : Aside0 (Kd.R k83 83 w48 w.heap.size (fun k_ => some k_ ≠ (.slice Ao9 t187.length co9 : Value).ownBlock ∧ some k_ ≠ (v203 : Value).ownBlock) (.slice Ao11 t190.length co11) t190) := ⟨h1_⟩
        have n2_ : Aside0 (Kd.R k83 83 w48 w.heap.size (fun k_ => some k_ ≠ (.slice Ao9 t187.length co9 : Value).ownBlock ∧ some k_ ≠ (.slice Ao11 t190.length co11 : Value).ownBlock) v203 y202) := ⟨h2_⟩
        have n3_ : Aside0 (w48.heap[gb193]? = some (.cells #[.slice Ao9 t187.length co9, .slice Ao11 t190.length co11] 25 (0, 0))) := ⟨h3_⟩
        have n4_ : Aside0 (w48.heap[gb205]? = some (.cells #[.slice none 0 0, .slice none 0 0] 25 (0, 0))) := ⟨h4_⟩
        have n5_ : Aside0 (w.heap.size ≤ gb205) := ⟨h5_⟩
        have n6_ : Aside0 (w.heap.size ≤ gb205) := ⟨h6_⟩
        have n7_ : Aside0 (gb193 ≠ gb205) := ⟨h7_⟩
        have n8_ : Aside0 (gb205 ≠ gb193) := ⟨h8_⟩
        have n9_ : Aside0 (Below w.heap.size w w48) := ⟨h9_⟩
        clear HO189
        clear HO192
        clear BK193
        clear HB
        clear h0_ h1_ h2_ h3_ h4_ h5_ h6_ h7_ h8_ h9_
        have HO189 := n0_
        have HO192 := n1_
        have HO204 := n2_
        have BK193 := n3_
        have BK205 := n4_
        have GW205 := n5_
        have GE205 := n6_
        have NB193_205 := n7_
        have NB205_193 := n8_
        have HB := n9_
        clear n0_ n1_ n2_ n3_ n4_ n5_ n6_ n7_ n8_ n9_
        have hHeld : w48.cell? ⟨gb193, 0, none⟩ = some (.slice Ao9 t187.length co9) ∧ w48.cell? ⟨gb193, 1, none⟩ = some (.slice Ao11 t190.length co11) := hS_
        obtain ⟨Ao49, co49, eo49⟩ := Kd.R_slice HO204.out
        (first | subst eo49 | (injection eo49 with f1_ f2_ f3_; have f4_ := f1_.symm; have f5_ := f3_.symm; clear f1_ f2_ f3_; subst f4_; subst f5_))
        refine norm_ (a' := ?_) ?_ ?_
        rotate_left
        ·
         simp only [putAll, Act.put, List.setIfInBounds_toArray, List.set_cons_zero, List.set_cons_succ]
         rfl
        refine one_ (i := 11) (N := none) laws_FnSchemaValid.m16 rfl rfl (one_of HT_.out (by kernel_rfl)) (by decide) (fun K hK => ?_)
        have hs50 : w48.cell? ⟨gb205, 0, none⟩ = some (.slice none 0 0) := (blk_cell BK205.out 0).trans rfl
        have hfs50 := blk_frozen BK205.out 0
        have hns50_0 := NB193_205.out
        have hms50_0 := NB205_193.out
        have hs51 : w48.cell? ⟨gb205, 1, none⟩ = some (.slice none 0 0) := (blk_cell BK205.out 1).trans rfl
        have hfs51 := blk_frozen BK205.out 1
        have hns51_0 := NB193_205.out
        have hms51_0 := NB205_193.out
        refine skip_ (w1 := ?_) (by rfl) rfl ?_ ?_
        rotate_left
        ·
         go_simp
         rfl
        refine hK.out _ _ ⟨((cell_far (p := ⟨gb205, _, none⟩) NB193_205.out _).trans (((cell_far (p := ⟨gb205, _, none⟩) NB193_205.out _).trans (hHeld.1)))), ((cell_far (p := ⟨gb205, _, none⟩) NB193_205.out _).trans (((cell_far (p := ⟨gb205, _, none⟩) NB193_205.out _).trans (hHeld.2))))⟩ (fun hHeld => ?_)
        clear hK K
        refine done_ (done_of HT_.out (by kernel_rfl)) ?_
        have n0_ : Aside0 (Kd.Q k83 83 ((w48.setCell ⟨gb205, 0, none⟩ (.slice Ao9 t187.length co9)).setCell ⟨gb205, 1, none⟩ (.slice Ao49 y202.length co49)) w.heap.size (fun k_ => some k_ ≠ (.slice Ao11 t190.length co11 : Value).ownBlock ∧ some k_ ≠ (.slice Ao49 y202.length co49 : Value).ownBlock) (.slice Ao9 t187.length co9) t187) := ⟨by (with_reducible repeat (first | apply Kd.Q_alloc | apply Kd.Q_drewN | apply Kd.Q_drew)); exact Kd.Q_mono (Kd.Q_far (p := ⟨gb205, 1, none⟩) (Kd.Q_far (p := ⟨gb205, 0, none⟩) (Kd.Q_types HO189.out BK205.out (by decide)) (fun _ hk => hk.2) (.slice Ao9 t187.length co9)) (fun _ hk => hk.2) (.slice Ao49 y202.length co49)) (fun _ hk => okp hk)⟩
        have n1_ : Aside0 (Kd.R k83 83 ((w48.setCell ⟨gb205, 0, none⟩ (.slice Ao9 t187.length co9)).setCell ⟨gb205, 1, none⟩ (.slice Ao49 y202.length co49)) w.heap.size (fun k_ => some k_ ≠ (.slice Ao9 t187.length co9 : Value).ownBlock ∧ some k_ ≠ (.slice Ao49 y202.length co49 : Value).ownBlock) (.slice Ao11 t190.length co11) t190) := ⟨by (with_reducible repeat (first | apply Kd.R_alloc | apply Kd.R_drewN | apply Kd.R_drew)); exact Kd.R_mono (Kd.R_far (p := ⟨gb205, 1, none⟩) (Kd.R_far (p := ⟨gb205, 0, none⟩) (Kd.R_types HO192.out BK205.out (by decide)) (fun _ hk => hk.2) (.slice Ao9 t187.length co9)) (fun _ hk => hk.2) (.slice Ao49 y202.length co49)) (fun _ hk => okp hk)⟩
        have n2_ : Aside0 (Kd.R k83 83 ((w48.setCell ⟨gb205, 0, none⟩ (.slice Ao9 t187.length co9)).setCell ⟨gb205, 1, none⟩ (.slice Ao49 y202.length co49)) w.heap.size (fun k_ => some k_ ≠ (.slice Ao9 t187.length co9 : Value).ownBlock ∧ some k_ ≠ (.slice Ao11 t190.length co11 : Value).ownBlock) (.slice Ao49 y202.length co49) y202) := ⟨by (with_reducible repeat (first | apply Kd.R_alloc | apply Kd.R_drewN | apply Kd.R_drew)); exact Kd.R_mono (Kd.R_far (p := ⟨gb205, 1, none⟩) (Kd.R_far (p := ⟨gb205, 0, none⟩) (Kd.R_types HO204.out BK205.out (by decide)) (fun _ hk => hk.2) (.slice Ao9 t187.length co9)) (fun _ hk => hk.2) (.slice Ao49 y202.length co49)) (fun _ hk => okp hk)⟩
        have n3_ : Aside0 (((w48.setCell ⟨gb205, 0, none⟩ (.slice Ao9 t187.length co9)).setCell ⟨gb205, 1, none⟩ (.slice Ao49 y202.length co49)).heap[gb193]? = some (.cells #[.slice Ao9 t187.length co9, .slice Ao11 t190.length co11] 25 (0, 0))) := ⟨by (with_reducible repeat (first | refine blk_drewN ?_ _ | refine blk_drew ?_ | refine blk_alloc ?_ _)); refine blk_far ?_ NB193_205.out _; (with_reducible repeat (first | refine blk_drewN ?_ _ | refine blk_drew ?_ | refine blk_alloc ?_ _)); refine blk_far ?_ NB193_205.out _; exact bk BK193.out⟩
        have n4_ : Aside0 (((w48.setCell ⟨gb205, 0, none⟩ (.slice Ao9 t187.length co9)).setCell ⟨gb205, 1, none⟩ (.slice Ao49 y202.length co49)).heap[gb205]? = some (.cells #[.slice Ao9 t187.length co9, .slice Ao49 y202.length co49] 25 (0, 0))) := ⟨by (with_reducible repeat (first | refine blk_drewN ?_ _ | refine blk_drew ?_ | refine blk_alloc ?_ _)); refine blk_put (cs := #[.slice Ao9 t187.length co9, .slice none 0 0]) ?_ 1 _ rfl; (with_reducible repeat (first | refine blk_drewN ?_ _ | refine blk_drew ?_ | refine blk_alloc ?_ _)); refine blk_put (cs := #[.slice none 0 0, .slice none 0 0]) ?_ 0 _ rfl; exact bk BK205.out⟩
        have n5_ : Aside0 (Below w.heap.size w ((w48.setCell ⟨gb205, 0, none⟩ (.slice Ao9 t187.length co9)).setCell ⟨gb205, 1, none⟩ (.slice Ao49 y202.length co49))) := ⟨by exact bw HB.out⟩
        (try clear HO189)
        (try clear HO192)
        (try clear HO204)
        (try clear BK193)
        (try clear BK205)
        (try clear HB)
        generalize ((w48.setCell ⟨gb205, 0, none⟩ (.slice Ao9 t187.length co9)).setCell ⟨gb205, 1, none⟩ (.slice Ao49 y202.length co49)) = w52 at n0_ n1_ n2_ n3_ n4_ n5_ ⊢
        have HO189 := n0_
        have HO192 := n1_
        have HO204 := n2_
        have BK193 := n3_
        have BK205 := n4_
        have HB := n5_
        clear n0_ n1_ n2_ n3_ n4_ n5_
        try go_wp2_with (first | ((with_reducible refine gate_callee (f := 12) rfl ?_); refine gl (some 28) Try.func12 #[.agg #[.slice none 0 0, .slice none 0 0]] ?_; (refine (impl_SchemaValid.calls k (fun k_ => False) _ _ ([] : List (S83)) (fun k_ => False) _ _ ([] : List (S83)) true _ ?side1 ?side2 A20.out).mono ?_); (case side1 => exact Kd.V_nil _ _ _ _ _); (case side2 => exact Kd.V_nil _ _ _ _ _); rintro e w53 ⟨rfl, hb⟩; refine ⟨_, rfl, ?_⟩; have n0_ := Aside0.mk (Kd.Q_below (by exact Kd.xQ HO189.out) hb); have n1_ := Aside0.mk (Kd.R_below (by exact Kd.xR HO192.out) hb); have n2_ := Aside0.mk (Kd.R_below (by exact Kd.xR HO204.out) hb); have n3_ := Aside0.mk (blk_below (g := gb193) (o := .cells #[.slice Ao9 t187.length co9, .slice Ao11 t190.length co11] 25 (0, 0)) (by exact bk BK193.out) hb); have n4_ := Aside0.mk (blk_below (g := gb205) (o := .cells #[.slice Ao9 t187.length co9, .slice Ao49 y202.length co49] 25 (0, 0)) (by exact bk BK205.out) hb); have n5_ := Aside0.mk (below_step (by exact bw HB.out) hb); clear HO189; clear HO192; clear HO204; clear BK193; clear BK205; clear HB; have HO189 := n0_; have HO192 := n1_; have HO204 := n2_; have BK193 := n3_; have BK205 := n4_; have HB := n5_; clear n0_ n1_ n2_ n3_ n4_ n5_; (try clear hb); (try clear hb2); (try clear hk); (try clear hi); have hnb54 := NB193_205.out; have hnc54 := NB205_193.out; have hcz55_0 : w53.cell? ⟨gb193, 0, none⟩ = some (.slice Ao9 t187.length co9) := (blk_cell BK193.out 0).trans rfl; have hcz55_1 : w53.cell? ⟨gb193, 1, none⟩ = some (.slice Ao11 t190.length co11) := (blk_cell BK193.out 1).trans rfl; have hfz55_0 := blk_frozen BK193.out 0; have hfz55_1 := blk_frozen BK193.out 1; have hcz56_0 : w53.cell? ⟨gb205, 0, none⟩ = some (.slice Ao9 t187.length co9) := (blk_cell BK205.out 0).trans rfl; have hcz56_1 : w53.cell? ⟨gb205, 1, none⟩ = some (.slice Ao49 y202.length co49) := (blk_cell BK205.out 1).trans rfl; have hfz56_0 := blk_frozen BK205.out 0; have hfz56_1 := blk_frozen BK205.out 1) | (go_at_call 12; (with_reducible refine (impl_SchemaValid.calls k (fun k_ => some k_ = (.slice Ao9 t187.length co9 : Value).ownBlock) _ _ t187 (fun k_ => some k_ = (.slice Ao49 y202.length co49 : Value).ownBlock) _ _ y202 true _ ?side1 ?side2 A39.out).mono ?_); (case side1 => exact Kd.Q_V (Kd.Q_tight rfl (Kd.Q_types (Kd.Q_types (HO189.out) BK193.out (by decide)) BK205.out (by decide)))); (case side2 => exact Kd.R_V (Kd.R_tight rfl (Kd.R_types (Kd.R_types (HO204.out) BK193.out (by decide)) BK205.out (by decide)))); rintro e w57 ⟨rfl, hb⟩; have n0_ := Aside0.mk (Kd.Q_below (by exact Kd.xQ HO189.out) hb); have n1_ := Aside0.mk (Kd.R_below (by exact Kd.xR HO192.out) hb); have n2_ := Aside0.mk (Kd.R_below (by exact Kd.xR HO204.out) hb); have n3_ := Aside0.mk (blk_below (g := gb193) (o := .cells #[.slice Ao9 t187.length co9, .slice Ao11 t190.length co11] 25 (0, 0)) (by exact bk BK193.out) hb); have n4_ := Aside0.mk (blk_below (g := gb205) (o := .cells #[.slice Ao9 t187.length co9, .slice Ao49 y202.length co49] 25 (0, 0)) (by exact bk BK205.out) hb); have n5_ := Aside0.mk (below_step (by exact bw HB.out) hb); clear HO189; clear HO192; clear HO204; clear BK193; clear BK205; clear HB; have HO189 := n0_; have HO192 := n1_; have HO204 := n2_; have BK193 := n3_; have BK205 := n4_; have HB := n5_; clear n0_ n1_ n2_ n3_ n4_ n5_; (try clear hb); (try clear hb2); (try clear hk); (try clear hi)))
        go_ret
        exact ⟨by first | rfl | (simp [errW_none, errW_some] <;> rfl) | (simp [*, errW_none, errW_some] <;> rfl), by exact bw HB.out⟩
       ·
        replace c40 := Bool.eq_false_iff.mpr c40
        subst c40
        have H1 : ((laws_alive.f k).bind fun t209 => (some t209)) = some r := by rw [if_neg (show ¬ (false = true) by decide)] at H; exact H
        clear H
        have H := H1
        clear H1
        replace H := Option.bind_eq_some_iff.mp H
        obtain ⟨t209, A580, H⟩ := H
        replace H : (some t209) = some r := H
        have A58 := Aside0.mk A580
        clear A580
        obtain rfl := Option.some.inj H
        try go_wp2
        have n0_ := Aside0.mk (Kd.Q_drew HO189.out)
        have n1_ := Aside0.mk (Kd.R_drew HO192.out)
        have n2_ := Aside0.mk (blk_drew BK193.out)
        have n3_ := Aside0.mk (below_drew1 HB.out)
        clear HO189
        clear HO192
        clear BK193
        clear HB
        have HO189 := n0_
        have HO192 := n1_
        have BK193 := n2_
        have HB := n3_
        clear n0_ n1_ n2_ n3_
        refine start_ (n := 12) (S := fun w' => w'.cell? ⟨gb193, 0, none⟩ = some (.slice Ao9 t187.length co9) ∧ w'.cell? ⟨gb193, 1, none⟩ = some (.slice Ao11 t190.length co11)) (ds := []) laws_FnSchemaValid.m0 (by kernel_rfl) rfl rfl ⟨(blk_cell BK193.out 0).trans rfl, (blk_cell BK193.out 1).trans rfl⟩ (fun hHeld => ?_); refine with_tabW laws_FnSchemaValid.tab7 laws_FnSchemaValid.bits7 (fun HT_ HW_ => ?_)
        generalize w16.drew = w59 at HO189 HO192 BK193 HB hHeld ⊢
        refine pure_ (i := 0) (N := some 17) (v := ?_) (a' := ?_) laws_FnSchemaValid.m1 rfl rfl (any_of HT_.out (by kernel_rfl)) (fun _ _ _ h => h) (Or.inl ⟨by rfl, ?_⟩) ?_ ?_
        rotate_left
        ·
         intro w'
         go_simp
         with_reducible rfl
        rotate_left
        ·
         simp only [Act.put, List.setIfInBounds_toArray, List.set_cons_zero, List.set_cons_succ, i64_w, i32_w]
         rfl
        refine pure_ (i := 3) (N := some 20) (v := ?_) (a' := ?_) laws_FnSchemaValid.m2 rfl rfl (any_of HT_.out (by kernel_rfl)) (fun _ _ _ h => h) (Or.inl ⟨by rfl, ?_⟩) ?_ ?_
        rotate_left
        ·
         intro w'
         go_simp
         with_reducible rfl
        rotate_left
        ·
         simp only [Act.put, List.setIfInBounds_toArray, List.set_cons_zero, List.set_cons_succ, i64_w, i32_w]
         rfl
        refine pure_ (i := 6) (N := some 23) (v := ?_) (a' := ?_) laws_FnSchemaValid.m3 rfl rfl (any_of HT_.out (by kernel_rfl)) (fun _ _ _ h => h) (Or.inl ⟨by rfl, ?_⟩) ?_ ?_
        rotate_left
        ·
         intro w'
         go_simp
         with_reducible rfl
        rotate_left
        ·
         simp only [Act.put, List.setIfInBounds_toArray, List.set_cons_zero, List.set_cons_succ, i64_w, i32_w]
         rfl
        refine take_ (i := 1) (N := some 18) (v := ?_) (a' := ?_) laws_FnSchemaValid.m4 rfl rfl (take_ofW HT_.out HW_.out (by kernel_rfl)) (fun _ _ _ h => h) (Or.inl ⟨by rfl, ?_⟩) hHeld ?_ ?_
        rotate_left
        ·
         rintro w' ⟨s0, s1⟩
         go_simp
         with_reducible rfl
        rotate_left
        ·
         simp only [Act.put, List.setIfInBounds_toArray, List.set_cons_zero, List.set_cons_succ, i64_w, i32_w]
         rfl
        refine take_ (i := 4) (N := some 21) (v := ?_) (a' := ?_) laws_FnSchemaValid.m5 rfl rfl (take_ofW HT_.out HW_.out (by kernel_rfl)) (fun _ _ _ h => h) (Or.inl ⟨by rfl, ?_⟩) hHeld ?_ ?_
        rotate_left
        ·
         rintro w' ⟨s0, s1⟩
         go_simp
         with_reducible rfl
        rotate_left
        ·
         simp only [Act.put, List.setIfInBounds_toArray, List.set_cons_zero, List.set_cons_succ, i64_w, i32_w]
         rfl
        refine take_ (i := 7) (N := some 24) (v := ?_) (a' := ?_) laws_FnSchemaValid.m6 rfl rfl (take_ofW HT_.out HW_.out (by kernel_rfl)) (fun _ _ _ h => h) (Or.inl ⟨by rfl, ?_⟩) hHeld ?_ ?_
        rotate_left
        ·
         rintro w' ⟨s0, s1⟩
         go_simp
         with_reducible rfl
        rotate_left
        ·
         simp only [Act.put, List.setIfInBounds_toArray, List.set_cons_zero, List.set_cons_succ, i64_w, i32_w]
         rfl
        refine join_ (σ := Value × Value × Value × Nat) 1 laws_FnSchemaValid.m7 (fun s_ => [(19, s_.1), (22, s_.2.1), (25, s_.2.2.1), (5, .pointer (some ⟨s_.2.2.2, 0, none⟩)), (26, .agg #[.slice Ao9 t187.length co9, s_.2.2.1])]) (fun s_ w' => (w'.cell? ⟨gb193, 0, none⟩ = some (.slice Ao9 t187.length co9) ∧ w'.cell? ⟨gb193, 1, none⟩ = some (.slice Ao11 t190.length co11)) ∧ (Kd.Q k83 83 w' w.heap.size (fun k_ => some k_ ≠ (.slice Ao11 t190.length co11 : Value).ownBlock ∧ some k_ ≠ (s_.2.2.1 : Value).ownBlock) (.slice Ao9 t187.length co9) t187) ∧ (Kd.R k83 83 w' w.heap.size (fun k_ => some k_ ≠ (.slice Ao9 t187.length co9 : Value).ownBlock ∧ some k_ ≠ (s_.2.2.1 : Value).ownBlock) (.slice Ao11 t190.length co11) t190) ∧ (Kd.R k83 83 w' w.heap.size (fun k_ => some k_ ≠ (.slice Ao9 t187.length co9 : Value).ownBlock ∧ some k_ ≠ (.slice Ao11 t190.length co11 : Value).ownBlock) s_.2.2.1 y202) ∧ (w'.heap[gb193]? = some (.cells #[.slice Ao9 t187.length co9, .slice Ao11 t190.length co11] 25 (0, 0))) ∧ (w'.heap[s_.2.2.2]? = some (.cells #[.slice none 0 0, .slice none 0 0] 25 (0, 0))) ∧ (w.heap.size ≤ s_.2.2.2) ∧ (w.heap.size ≤ s_.2.2.2) ∧ (gb193 ≠ s_.2.2.2) ∧ (s_.2.2.2 ≠ gb193) ∧ (Below w.heap.size w w')) ?_ ?_
        rotate_left
        ·
         intro hCont
         refine two_ (i := 2) (j := 10) (Ni := some 19) (Nj := some 5) laws_FnSchemaValid.m8 laws_FnSchemaValid.m9 rfl rfl rfl rfl (two_of HT_.out (by kernel_rfl)) (by decide) (by decide) (fun K hK => ?_) (fun K hK => ?_)
         ·
          skip
          refine Kd.R_lit_step k83 _ 83 ?hg (N := 19) ?hd (xs := ([] : List (S83))) (inner := []) (ok := fun _ => True) (okp := fun _ => True) ?hr ?hp (fun _ hk => hk) trivial (Below.refl _ _) (Nat.le_refl _) (by simp) ?_; (case hd => rfl); (case hg => rfl); (case hr => first | (go_simp; done) | (go_simp; rfl)); (case hp => exact (Reps.none _ _))
          intro v197 w60 ho61 hb hg_ hnew_
          clear hg_ hnew_
          (first | rw [← Ny196.out] at ho61 | (simp only [Int.reduceToNat] at ho61; rw [← Ny196.out] at ho61))
          have n0_ := Aside0.mk (Kd.Q_elder' (by exact Kd.xQ HO189.out) (Kd.R_base ho61) hb)
          have n1_ := Aside0.mk (Kd.R_elder' (by exact Kd.xR HO192.out) (Kd.R_base ho61) hb)
          have n2_ := Aside0.mk (Kd.R_lower (Kd.R_new' (Kd.R_new' ho61 (Kd.Q_lt (by exact Kd.xQ HO189.out))) (Kd.R_lt (by exact Kd.xR HO192.out))) (below_size (by exact bw HB.out)))
          have n3_ := Aside0.mk (blk_below (g := gb193) (o := .cells #[.slice Ao9 t187.length co9, .slice Ao11 t190.length co11] 25 (0, 0)) (by exact bk BK193.out) hb)
          have n4_ := Aside0.mk (below_step (by exact bw HB.out) hb)
          clear HO189
          clear HO192
          clear BK193
          clear HB
          have HO189 := n0_
          have HO192 := n1_
          have HO198 := n2_
          have BK193 := n3_
          have HB := n4_
          clear n0_ n1_ n2_ n3_ n4_
          clear hb ho61
          refine hK.out _ _ ⟨(blk_cell BK193.out 0).trans rfl, (blk_cell BK193.out 1).trans rfl⟩ (fun hHeld => ?_)
          clear hK K
          refine norm_ (a' := ?_) ?_ ?_
          rotate_left
          ·
           show Act.put _ (some 19) _ = _
           simp only [Act.put, List.setIfInBounds_toArray, List.set_cons_zero, List.set_cons_succ, i64_w, i32_w]
           rfl
          refine two_ (i := 5) (j := 10) (Ni := some 22) (Nj := some 5) laws_FnSchemaValid.m10 laws_FnSchemaValid.m11 rfl rfl rfl rfl (two_of HT_.out (by kernel_rfl)) (by decide) (by decide) (fun K hK => ?_) (fun K hK => ?_)
          ·
           skip
           refine Kd.R_append_rows_step k83 (w0 := w) w.heap.size (by rfl) (.tmp 19) (.tmp 21) 23 83 (.agg #[(.string ⟨#[]⟩), (.int .i64 0)]) 24 rfl Try.underlying23 info83 rfl (by decide) (by omega) v197 y196 t190 _ _ _ (fun k_ => some k_ ≠ (.slice Ao9 t187.length co9 : Value).ownBlock ∧ some k_ ≠ (.slice Ao11 t190.length co11 : Value).ownBlock) (fun _ => False) rfl rfl ?aO ?aR (fun _ _ h => h) (fun _ h => h.elim) ?aF ?aB ?aS ?aL ?_
           (case aR => repeat (first | exact (Kd.R_reads' HO192.out).2.2 | (with_reducible refine Kd.C_alloc ?_ _) | (with_reducible refine Kd.C_drewN ?_ _) | (with_reducible refine Kd.C_drew ?_)))
           (case aB => exact (by exact bw HB.out))
           (case aF => exact (fun k_ hk => ⟨Kd.fresh' (Kd.Q_lt (by exact Kd.xQ HO189.out)) k_ hk, Kd.fresh' (Kd.R_lt (by exact Kd.xR HO192.out)) k_ hk⟩))
           (case aO => exact (by (with_reducible repeat (first | apply Kd.R_alloc | apply Kd.R_drewN | apply Kd.R_drew)); exact Kd.R_mono HO198.out (fun _ hk => okp hk)))
           (case aS => exact (below_size (by exact bw HB.out)))
           (case aL => have := LMc18.out; omega)
           intro v200 w62 ho hb hg hat
           rw [← Ny199.out] at ho
           have n0_ := Aside0.mk (Kd.Q_after (ok := (fun k_ => some k_ ≠ (.slice Ao11 t190.length co11 : Value).ownBlock)) (by exact Kd.xQ HO189.out) hg hat)
           have n1_ := Aside0.mk (Kd.R_after (ok := (fun k_ => some k_ ≠ (.slice Ao9 t187.length co9 : Value).ownBlock)) (by exact Kd.xR HO192.out) hg hat)
           have n2_ := Aside0.mk (blk_grown (g := gb193) (o := .cells #[.slice Ao9 t187.length co9, .slice Ao11 t190.length co11] 25 (0, 0)) (by exact bk BK193.out) hg (Kd.R_ne HO198.out BK193.out (by decide)))
           have n3_ := Aside0.mk (hb)
           have n4_ := Aside0.mk (ho)
           clear HO189
           clear HO192
           clear BK193
           clear HB
           clear HO198
           have HO189 := n0_
           have HO192 := n1_
           have BK193 := n2_
           have HB := n3_
           have HO201 := n4_
           clear n0_ n1_ n2_ n3_ n4_
           clear ho hb hg hat
           refine hK.out _ _ ⟨(blk_cell BK193.out 0).trans rfl, (blk_cell BK193.out 1).trans rfl⟩ (fun hHeld => ?_)
           clear hK K
           refine norm_ (a' := ?_) ?_ ?_
           rotate_left
           ·
            show Act.put _ (some 22) _ = _
            simp only [Act.put, List.setIfInBounds_toArray, List.set_cons_zero, List.set_cons_succ, i64_w, i32_w]
            rfl
           refine two_ (i := 8) (j := 10) (Ni := some 25) (Nj := some 5) laws_FnSchemaValid.m12 laws_FnSchemaValid.m13 rfl rfl rfl rfl (two_of HT_.out (by kernel_rfl)) (by decide) (by decide) (fun K hK => ?_) (fun K hK => ?_)
           ·
            skip
            refine Kd.R_append_rows_step k83 (w0 := w) w.heap.size (by rfl) (.tmp 22) (.tmp 24) 23 83 (.agg #[(.string ⟨#[]⟩), (.int .i64 0)]) 24 rfl Try.underlying23 info83 rfl (by decide) (by omega) v200 y199 t190 _ _ _ (fun k_ => some k_ ≠ (.slice Ao9 t187.length co9 : Value).ownBlock ∧ some k_ ≠ (.slice Ao11 t190.length co11 : Value).ownBlock) (fun _ => False) rfl rfl ?aO ?aR (fun _ _ h => h) (fun _ h => h.elim) ?aF ?aB ?aS ?aL ?_
            (case aR => repeat (first | exact (Kd.R_reads' HO192.out).2.2 | (with_reducible refine Kd.C_alloc ?_ _) | (with_reducible refine Kd.C_drewN ?_ _) | (with_reducible refine Kd.C_drew ?_)))
            (case aB => exact (by exact bw HB.out))
            (case aF => exact (fun k_ hk => ⟨Kd.fresh' (Kd.Q_lt (by exact Kd.xQ HO189.out)) k_ hk, Kd.fresh' (Kd.R_lt (by exact Kd.xR HO192.out)) k_ hk⟩))
            (case aO => exact (by exact Kd.xR HO201.out))
            (case aS => exact (below_size (by exact bw HB.out)))
            (case aL => have := LMc19.out; omega)
            intro v203 w63 ho hb hg hat
            rw [← Ny202.out] at ho
            have n0_ := Aside0.mk (Kd.Q_after (ok := (fun k_ => some k_ ≠ (.slice Ao11 t190.length co11 : Value).ownBlock)) (by exact Kd.xQ HO189.out) hg hat)
            have n1_ := Aside0.mk (Kd.R_after (ok := (fun k_ => some k_ ≠ (.slice Ao9 t187.length co9 : Value).ownBlock)) (by exact Kd.xR HO192.out) hg hat)
            have n2_ := Aside0.mk (blk_grown (g := gb193) (o := .cells #[.slice Ao9 t187.length co9, .slice Ao11 t190.length co11] 25 (0, 0)) (by exact bk BK193.out) hg (Kd.R_ne HO201.out BK193.out (by decide)))
            have n3_ := Aside0.mk (hb)
            have n4_ := Aside0.mk (ho)
            clear HO189
            clear HO192
            clear BK193
            clear HB
            clear HO201
            have HO189 := n0_
            have HO192 := n1_
            have BK193 := n2_
            have HB := n3_
            have HO204 := n4_
            clear n0_ n1_ n2_ n3_ n4_
            clear ho hb hg hat
            obtain ⟨Ao64, co64, eo64⟩ := Kd.R_slice HO204.out
            (first | subst eo64 | (injection eo64 with f1_ f2_ f3_; have f4_ := f1_.symm; have f5_ := f3_.symm; clear f1_ f2_ f3_; subst f4_; subst f5_))
            refine hK.out _ _ ⟨(blk_cell BK193.out 0).trans rfl, (blk_cell BK193.out 1).trans rfl⟩ (fun hHeld => ?_)
            clear hK K
            refine norm_ (a' := ?_) ?_ ?_
            rotate_left
            ·
             show Act.put _ (some 25) _ = _
             simp only [Act.put, List.setIfInBounds_toArray, List.set_cons_zero, List.set_cons_succ, i64_w, i32_w]
             rfl
            refine pure_ (i := 9) (N := some 26) (v := ?_) (a' := ?_) laws_FnSchemaValid.m14 rfl rfl (any_of HT_.out (by kernel_rfl)) (fun _ _ _ h => h) (Or.inl ⟨by rfl, ?_⟩) ?_ ?_
            rotate_left
            ·
             intro w'
             go_simp
             with_reducible rfl
            rotate_left
            ·
             simp only [Act.put, List.setIfInBounds_toArray, List.set_cons_zero, List.set_cons_succ, i64_w, i32_w]
             rfl
            refine one_ (i := 10) (N := some 5) laws_FnSchemaValid.m7 rfl rfl (one_of HT_.out (by kernel_rfl)) (by decide) (fun K hK => ?_)
            refine box_step ?hg (N := 5) ?hd (cs := #[.slice none 0 0, .slice none 0 0]) (t := 25) ?hr ?_; (case hd => rfl); (case hg => rfl); (case hr => first | (go_simp; done) | (go_simp; rfl))
            intro gb205 hg w65 hbox hb
            have n0_ := Aside0.mk (Kd.Q_below (by exact Kd.xQ HO189.out) hb)
            have n1_ := Aside0.mk (Kd.R_below (by exact Kd.xR HO192.out) hb)
            have n2_ := Aside0.mk (Kd.R_below (by exact Kd.xR HO204.out) hb)
            have n3_ := Aside0.mk (blk_below (g := gb193) (o := .cells #[.slice Ao9 t187.length co9, .slice Ao11 t190.length co11] 25 (0, 0)) (by exact bk BK193.out) hb)
            have n4_ := Aside0.mk (below_step (by exact bw HB.out) hb)
            have n5_ := Aside0.mk (hbox)
            have n6_ := Aside0.mk ((by rw [hg]; exact (below_size (by exact bw HB.out)) : w.heap.size ≤ gb205))
            have n7_ := Aside0.mk ((by rw [hg]; exact (below_size (by exact bw HB.out)) : w.heap.size ≤ gb205))
            have n8_ := Aside0.mk ((by rw [hg]; exact Nat.ne_of_lt (blk_lt (g := gb193) (o := .cells #[.slice Ao9 t187.length co9, .slice Ao11 t190.length co11] 25 (0, 0)) (by exact bk BK193.out)) : gb193 ≠ gb205))
            have n9_ := Aside0.mk ((by rw [hg]; exact Nat.ne_of_gt (blk_lt (g := gb193) (o := .cells #[.slice Ao9 t187.length co9, .slice Ao11 t190.length co11] 25 (0, 0)) (by exact bk BK193.out)) : gb205 ≠ gb193))
            clear HO189
            clear HO192
            clear HO204
            clear BK193
            clear HB
            have HO189 := n0_
            have HO192 := n1_
            have HO204 := n2_
            have BK193 := n3_
            have HB := n4_
            have BK205 := n5_
            have GW205 := n6_
            have GE205 := n7_
            have NB193_205 := n8_
            have NB205_193 := n9_
            clear n0_ n1_ n2_ n3_ n4_ n5_ n6_ n7_ n8_ n9_
            clear hb hbox hg
            refine hK.out _ _ ⟨(blk_cell BK193.out 0).trans rfl, (blk_cell BK193.out 1).trans rfl⟩ (fun hHeld => ?_)
            clear hK K
            refine norm_ (a' := ?_) ?_ ?_
            rotate_left
            ·
             show Act.put _ (some 5) _ = _
             simp only [Act.put, List.setIfInBounds_toArray, List.set_cons_zero, List.set_cons_succ, i64_w, i32_w]
             rfl
            exact norm_ (by simp only [putAll, Act.put, List.setIfInBounds_toArray, List.set_cons_zero, List.set_cons_succ]) (hCont (v197, v200, .slice Ao64 y202.length co64, gb205) _ ⟨hHeld, (by exact Kd.xQ HO189.out), (by exact Kd.xR HO192.out), (by exact Kd.xR HO204.out), (by exact bk BK193.out), (by exact bk BK205.out), GW205.out, GE205.out, NB193_205.out, NB205_193.out, (by exact bw HB.out)⟩)
           ·
            skip
            refine box_step ?hg (N := 5) ?hd (cs := #[.slice none 0 0, .slice none 0 0]) (t := 25) ?hr ?_; (case hd => rfl); (case hg => rfl); (case hr => first | (go_simp; done) | (go_simp; rfl))
            intro gb205 hg w63 hbox hb
            have n0_ := Aside0.mk (Kd.Q_below (by exact Kd.xQ HO189.out) hb)
            have n1_ := Aside0.mk (Kd.R_below (by exact Kd.xR HO192.out) hb)
            have n2_ := Aside0.mk (Kd.R_below (by exact Kd.xR HO201.out) hb)
            have n3_ := Aside0.mk (blk_below (g := gb193) (o := .cells #[.slice Ao9 t187.length co9, .slice Ao11 t190.length co11] 25 (0, 0)) (by exact bk BK193.out) hb)
            have n4_ := Aside0.mk (below_step (by exact bw HB.out) hb)
            have n5_ := Aside0.mk (hbox)
            have n6_ := Aside0.mk ((by rw [hg]; exact (below_size (by exact bw HB.out)) : w.heap.size ≤ gb205))
            have n7_ := Aside0.mk ((by rw [hg]; exact (below_size (by exact bw HB.out)) : w.heap.size ≤ gb205))
            have n8_ := Aside0.mk ((by rw [hg]; exact Nat.ne_of_lt (blk_lt (g := gb193) (o := .cells #[.slice Ao9 t187.length co9, .slice Ao11 t190.length co11] 25 (0, 0)) (by exact bk BK193.out)) : gb193 ≠ gb205))
            have n9_ := Aside0.mk ((by rw [hg]; exact Nat.ne_of_gt (blk_lt (g := gb193) (o := .cells #[.slice Ao9 t187.length co9, .slice Ao11 t190.length co11] 25 (0, 0)) (by exact bk BK193.out)) : gb205 ≠ gb193))
            clear HO189
            clear HO192
            clear HO201
            clear BK193
            clear HB
            have HO189 := n0_
            have HO192 := n1_
            have HO201 := n2_
            have BK193 := n3_
            have HB := n4_
            have BK205 := n5_
            have GW205 := n6_
            have GE205 := n7_
            have NB193_205 := n8_
            have NB205_193 := n9_
            clear n0_ n1_ n2_ n3_ n4_ n5_ n6_ n7_ n8_ n9_
            clear hb hbox hg
            refine hK.out _ _ ⟨(blk_cell BK193.out 0).trans rfl, (blk_cell BK193.out 1).trans rfl⟩ (fun hHeld => ?_)
            clear hK K
            refine norm_ (a' := ?_) ?_ ?_
            rotate_left
            ·
             show Act.put _ (some 5) _ = _
             simp only [Act.put, List.setIfInBounds_toArray, List.set_cons_zero, List.set_cons_succ, i64_w, i32_w]
             rfl
            refine one_ (i := 8) (N := some 25) laws_FnSchemaValid.m15 rfl rfl (one_of HT_.out (by kernel_rfl)) (by decide) (fun K hK => ?_)
            refine Kd.R_append_rows_step k83 (w0 := w) w.heap.size (by rfl) (.tmp 22) (.tmp 24) 23 83 (.agg #[(.string ⟨#[]⟩), (.int .i64 0)]) 24 rfl Try.underlying23 info83 rfl (by decide) (by omega) v200 y199 t190 _ _ _ (fun k_ => some k_ ≠ (.slice Ao9 t187.length co9 : Value).ownBlock ∧ some k_ ≠ (.slice Ao11 t190.length co11 : Value).ownBlock) (fun _ => False) rfl rfl ?aO ?aR (fun _ _ h => h) (fun _ h => h.elim) ?aF ?aB ?aS ?aL ?_
            (case aR => repeat (first | exact (Kd.R_reads' HO192.out).2.2 | (with_reducible refine Kd.C_alloc ?_ _) | (with_reducible refine Kd.C_drewN ?_ _) | (with_reducible refine Kd.C_drew ?_)))
            (case aB => exact (by exact bw HB.out))
            (case aF => exact (fun k_ hk => ⟨Kd.fresh' (Kd.Q_lt (by exact Kd.xQ HO189.out)) k_ hk, Kd.fresh' (Kd.R_lt (by exact Kd.xR HO192.out)) k_ hk⟩))
            (case aO => exact (by exact Kd.xR HO201.out))
            (case aS => exact (below_size (by exact bw HB.out)))
            (case aL => have := LMc19.out; omega)
            intro v203 w64 ho hb hg hat
            rw [← Ny202.out] at ho
            have n0_ := Aside0.mk (Kd.Q_after (ok := (fun k_ => some k_ ≠ (.slice Ao11 t190.length co11 : Value).ownBlock)) (by exact Kd.xQ HO189.out) hg hat)
            have n1_ := Aside0.mk (Kd.R_after (ok := (fun k_ => some k_ ≠ (.slice Ao9 t187.length co9 : Value).ownBlock)) (by exact Kd.xR HO192.out) hg hat)
            have n2_ := Aside0.mk (blk_grown (g := gb193) (o := .cells #[.slice Ao9 t187.length co9, .slice Ao11 t190.length co11] 25 (0, 0)) (by exact bk BK193.out) hg (Kd.R_ne HO201.out BK193.out (by decide)))
            have n3_ := Aside0.mk (blk_grown (g := gb205) (o := .cells #[.slice none 0 0, .slice none 0 0] 25 (0, 0)) (by exact bk BK205.out) hg (Kd.R_ne HO201.out BK205.out (by decide)))
            have n4_ := Aside0.mk (hb)
            have n5_ := Aside0.mk (ho)
            clear HO189
            clear HO192
            clear BK193
            clear BK205
            clear HB
            clear HO201
            have HO189 := n0_
            have HO192 := n1_
            have BK193 := n2_
            have BK205 := n3_
            have HB := n4_
            have HO204 := n5_
            clear n0_ n1_ n2_ n3_ n4_ n5_
            clear ho hb hg hat
            obtain ⟨Ao65, co65, eo65⟩ := Kd.R_slice HO204.out
            (first | subst eo65 | (injection eo65 with f1_ f2_ f3_; have f4_ := f1_.symm; have f5_ := f3_.symm; clear f1_ f2_ f3_; subst f4_; subst f5_))
            refine hK.out _ _ ⟨(blk_cell BK193.out 0).trans rfl, (blk_cell BK193.out 1).trans rfl⟩ (fun hHeld => ?_)
            clear hK K
            refine norm_ (a' := ?_) ?_ ?_
            rotate_left
            ·
             show Act.put _ (some 25) _ = _
             simp only [Act.put, List.setIfInBounds_toArray, List.set_cons_zero, List.set_cons_succ, i64_w, i32_w]
             rfl
            refine pure_ (i := 9) (N := some 26) (v := ?_) (a' := ?_) laws_FnSchemaValid.m7 rfl rfl (any_of HT_.out (by kernel_rfl)) (fun _ _ _ h => h) (Or.inl ⟨by rfl, ?_⟩) ?_ ?_
            rotate_left
            ·
             intro w'
             go_simp
             with_reducible rfl
            rotate_left
            ·
             simp only [Act.put, List.setIfInBounds_toArray, List.set_cons_zero, List.set_cons_succ, i64_w, i32_w]
             rfl
            exact norm_ (by simp only [putAll, Act.put, List.setIfInBounds_toArray, List.set_cons_zero, List.set_cons_succ]) (hCont (v197, v200, .slice Ao65 y202.length co65, gb205) _ ⟨hHeld, (by exact Kd.xQ HO189.out), (by exact Kd.xR HO192.out), (by exact Kd.xR HO204.out), (by exact bk BK193.out), (by exact bk BK205.out), GW205.out, GE205.out, NB193_205.out, NB205_193.out, (by exact bw HB.out)⟩)
          ·
           skip
           refine box_step ?hg (N := 5) ?hd (cs := #[.slice none 0 0, .slice none 0 0]) (t := 25) ?hr ?_; (case hd => rfl); (case hg => rfl); (case hr => first | (go_simp; done) | (go_simp; rfl))
           intro gb205 hg w62 hbox hb
           have n0_ := Aside0.mk (Kd.Q_below (by exact Kd.xQ HO189.out) hb)
           have n1_ := Aside0.mk (Kd.R_below (by exact Kd.xR HO192.out) hb)
           have n2_ := Aside0.mk (Kd.R_below (by exact Kd.xR HO198.out) hb)
           have n3_ := Aside0.mk (blk_below (g := gb193) (o := .cells #[.slice Ao9 t187.length co9, .slice Ao11 t190.length co11] 25 (0, 0)) (by exact bk BK193.out) hb)
           have n4_ := Aside0.mk (below_step (by exact bw HB.out) hb)
           have n5_ := Aside0.mk (hbox)
           have n6_ := Aside0.mk ((by rw [hg]; exact (below_size (by exact bw HB.out)) : w.heap.size ≤ gb205))
           have n7_ := Aside0.mk ((by rw [hg]; exact (below_size (by exact bw HB.out)) : w.heap.size ≤ gb205))
           have n8_ := Aside0.mk ((by rw [hg]; exact Nat.ne_of_lt (blk_lt (g := gb193) (o := .cells #[.slice Ao9 t187.length co9, .slice Ao11 t190.length co11] 25 (0, 0)) (by exact bk BK193.out)) : gb193 ≠ gb205))
           have n9_ := Aside0.mk ((by rw [hg]; exact Nat.ne_of_gt (blk_lt (g := gb193) (o := .cells #[.slice Ao9 t187.length co9, .slice Ao11 t190.length co11] 25 (0, 0)) (by exact bk BK193.out)) : gb205 ≠ gb193))
           clear HO189
           clear HO192
           clear HO198
           clear BK193
           clear HB
           have HO189 := n0_
           have HO192 := n1_
           have HO198 := n2_
           have BK193 := n3_
           have HB := n4_
           have BK205 := n5_
           have GW205 := n6_
           have GE205 := n7_
           have NB193_205 := n8_
           have NB205_193 := n9_
           clear n0_ n1_ n2_ n3_ n4_ n5_ n6_ n7_ n8_ n9_
           clear hb hbox hg
           refine hK.out _ _ ⟨(blk_cell BK193.out 0).trans rfl, (blk_cell BK193.out 1).trans rfl⟩ (fun hHeld => ?_)
           clear hK K
           refine norm_ (a' := ?_) ?_ ?_
           rotate_left
           ·
            show Act.put _ (some 5) _ = _
            simp only [Act.put, List.setIfInBounds_toArray, List.set_cons_zero, List.set_cons_succ, i64_w, i32_w]
            rfl
           refine one_ (i := 5) (N := some 22) laws_FnSchemaValid.m13 rfl rfl (one_of HT_.out (by kernel_rfl)) (by decide) (fun K hK => ?_)
           refine Kd.R_append_rows_step k83 (w0 := w) w.heap.size (by rfl) (.tmp 19) (.tmp 21) 23 83 (.agg #[(.string ⟨#[]⟩), (.int .i64 0)]) 24 rfl Try.underlying23 info83 rfl (by decide) (by omega) v197 y196 t190 _ _ _ (fun k_ => some k_ ≠ (.slice Ao9 t187.length co9 : Value).ownBlock ∧ some k_ ≠ (.slice Ao11 t190.length co11 : Value).ownBlock) (fun _ => False) rfl rfl ?aO ?aR (fun _ _ h => h) (fun _ h => h.elim) ?aF ?aB ?aS ?aL ?_
           (case aR => repeat (first | exact (Kd.R_reads' HO192.out).2.2 | (with_reducible refine Kd.C_alloc ?_ _) | (with_reducible refine Kd.C_drewN ?_ _) | (with_reducible refine Kd.C_drew ?_)))
           (case aB => exact (by exact bw HB.out))
           (case aF => exact (fun k_ hk => ⟨Kd.fresh' (Kd.Q_lt (by exact Kd.xQ HO189.out)) k_ hk, Kd.fresh' (Kd.R_lt (by exact Kd.xR HO192.out)) k_ hk⟩))
           (case aO => exact (by (with_reducible repeat (first | apply Kd.R_alloc | apply Kd.R_drewN | apply Kd.R_drew)); exact Kd.R_mono HO198.out (fun _ hk => okp hk)))
           (case aS => exact (below_size (by exact bw HB.out)))
           (case aL => have := LMc18.out; omega)
           intro v200 w63 ho hb hg hat
           rw [← Ny199.out] at ho
           have n0_ := Aside0.mk (Kd.Q_after (ok := (fun k_ => some k_ ≠ (.slice Ao11 t190.length co11 : Value).ownBlock)) (by exact Kd.xQ HO189.out) hg hat)
           have n1_ := Aside0.mk (Kd.R_after (ok := (fun k_ => some k_ ≠ (.slice Ao9 t187.length co9 : Value).ownBlock)) (by exact Kd.xR HO192.out) hg hat)
           have n2_ := Aside0.mk (blk_grown (g := gb193) (o := .cells #[.slice Ao9 t187.length co9, .slice Ao11 t190.length co11] 25 (0, 0)) (by exact bk BK193.out) hg (Kd.R_ne HO198.out BK193.out (by decide)))
           have n3_ := Aside0.mk (blk_grown (g := gb205) (o := .cells #[.slice none 0 0, .slice none 0 0] 25 (0, 0)) (by exact bk BK205.out) hg (Kd.R_ne HO198.out BK205.out (by decide)))
           have n4_ := Aside0.mk (hb)
           have n5_ := Aside0.mk (ho)
           clear HO189
           clear HO192
           clear BK193
           clear BK205
           clear HB
           clear HO198
           have HO189 := n0_
           have HO192 := n1_
           have BK193 := n2_
           have BK205 := n3_
           have HB := n4_
           have HO201 := n5_
           clear n0_ n1_ n2_ n3_ n4_ n5_
           clear ho hb hg hat
           refine hK.out _ _ ⟨(blk_cell BK193.out 0).trans rfl, (blk_cell BK193.out 1).trans rfl⟩ (fun hHeld => ?_)
           clear hK K
           refine norm_ (a' := ?_) ?_ ?_
           rotate_left
           ·
            show Act.put _ (some 22) _ = _
            simp only [Act.put, List.setIfInBounds_toArray, List.set_cons_zero, List.set_cons_succ, i64_w, i32_w]
            rfl
           refine one_ (i := 8) (N := some 25) laws_FnSchemaValid.m15 rfl rfl (one_of HT_.out (by kernel_rfl)) (by decide) (fun K hK => ?_)
           refine Kd.R_append_rows_step k83 (w0 := w) w.heap.size (by rfl) (.tmp 22) (.tmp 24) 23 83 (.agg #[(.string ⟨#[]⟩), (.int .i64 0)]) 24 rfl Try.underlying23 info83 rfl (by decide) (by omega) v200 y199 t190 _ _ _ (fun k_ => some k_ ≠ (.slice Ao9 t187.length co9 : Value).ownBlock ∧ some k_ ≠ (.slice Ao11 t190.length co11 : Value).ownBlock) (fun _ => False) rfl rfl ?aO ?aR (fun _ _ h => h) (fun _ h => h.elim) ?aF ?aB ?aS ?aL ?_
           (case aR => repeat (first | exact (Kd.R_reads' HO192.out).2.2 | (with_reducible refine Kd.C_alloc ?_ _) | (with_reducible refine Kd.C_drewN ?_ _) | (with_reducible refine Kd.C_drew ?_)))
           (case aB => exact (by exact bw HB.out))
           (case aF => exact (fun k_ hk => ⟨Kd.fresh' (Kd.Q_lt (by exact Kd.xQ HO189.out)) k_ hk, Kd.fresh' (Kd.R_lt (by exact Kd.xR HO192.out)) k_ hk⟩))
           (case aO => exact (by exact Kd.xR HO201.out))
           (case aS => exact (below_size (by exact bw HB.out)))
           (case aL => have := LMc19.out; omega)
           intro v203 w64 ho hb hg hat
           rw [← Ny202.out] at ho
           have n0_ := Aside0.mk (Kd.Q_after (ok := (fun k_ => some k_ ≠ (.slice Ao11 t190.length co11 : Value).ownBlock)) (by exact Kd.xQ HO189.out) hg hat)
           have n1_ := Aside0.mk (Kd.R_after (ok := (fun k_ => some k_ ≠ (.slice Ao9 t187.length co9 : Value).ownBlock)) (by exact Kd.xR HO192.out) hg hat)
           have n2_ := Aside0.mk (blk_grown (g := gb193) (o := .cells #[.slice Ao9 t187.length co9, .slice Ao11 t190.length co11] 25 (0, 0)) (by exact bk BK193.out) hg (Kd.R_ne HO201.out BK193.out (by decide)))
           have n3_ := Aside0.mk (blk_grown (g := gb205) (o := .cells #[.slice none 0 0, .slice none 0 0] 25 (0, 0)) (by exact bk BK205.out) hg (Kd.R_ne HO201.out BK205.out (by decide)))
           have n4_ := Aside0.mk (hb)
           have n5_ := Aside0.mk (ho)
           clear HO189
           clear HO192
           clear BK193
           clear BK205
           clear HB
           clear HO201
           have HO189 := n0_
           have HO192 := n1_
           have BK193 := n2_
           have BK205 := n3_
           have HB := n4_
           have HO204 := n5_
           clear n0_ n1_ n2_ n3_ n4_ n5_
           clear ho hb hg hat
           obtain ⟨Ao65, co65, eo65⟩ := Kd.R_slice HO204.out
           (first | subst eo65 | (injection eo65 with f1_ f2_ f3_; have f4_ := f1_.symm; have f5_ := f3_.symm; clear f1_ f2_ f3_; subst f4_; subst f5_))
           refine hK.out _ _ ⟨(blk_cell BK193.out 0).trans rfl, (blk_cell BK193.out 1).trans rfl⟩ (fun hHeld => ?_)
           clear hK K
           refine norm_ (a' := ?_) ?_ ?_
           rotate_left
           ·
            show Act.put _ (some 25) _ = _
            simp only [Act.put, List.setIfInBounds_toArray, List.set_cons_zero, List.set_cons_succ, i64_w, i32_w]
            rfl
           refine pure_ (i := 9) (N := some 26) (v := ?_) (a' := ?_) laws_FnSchemaValid.m7 rfl rfl (any_of HT_.out (by kernel_rfl)) (fun _ _ _ h => h) (Or.inl ⟨by rfl, ?_⟩) ?_ ?_
           rotate_left
           ·
            intro w'
            go_simp
            with_reducible rfl
           rotate_left
           ·
            simp only [Act.put, List.setIfInBounds_toArray, List.set_cons_zero, List.set_cons_succ, i64_w, i32_w]
            rfl
           exact norm_ (by simp only [putAll, Act.put, List.setIfInBounds_toArray, List.set_cons_zero, List.set_cons_succ]) (hCont (v197, v200, .slice Ao65 y202.length co65, gb205) _ ⟨hHeld, (by exact Kd.xQ HO189.out), (by exact Kd.xR HO192.out), (by exact Kd.xR HO204.out), (by exact bk BK193.out), (by exact bk BK205.out), GW205.out, GE205.out, NB193_205.out, NB205_193.out, (by exact bw HB.out)⟩)
         ·
          skip
          refine box_step ?hg (N := 5) ?hd (cs := #[.slice none 0 0, .slice none 0 0]) (t := 25) ?hr ?_; (case hd => rfl); (case hg => rfl); (case hr => first | (go_simp; done) | (go_simp; rfl))
          intro gb205 hg w60 hbox hb
          have n0_ := Aside0.mk (Kd.Q_below (by exact Kd.xQ HO189.out) hb)
          have n1_ := Aside0.mk (Kd.R_below (by exact Kd.xR HO192.out) hb)
          have n2_ := Aside0.mk (blk_below (g := gb193) (o := .cells #[.slice Ao9 t187.length co9, .slice Ao11 t190.length co11] 25 (0, 0)) (by exact bk BK193.out) hb)
          have n3_ := Aside0.mk (below_step (by exact bw HB.out) hb)
          have n4_ := Aside0.mk (hbox)
          have n5_ := Aside0.mk ((by rw [hg]; exact (below_size (by exact bw HB.out)) : w.heap.size ≤ gb205))
          have n6_ := Aside0.mk ((by rw [hg]; exact (below_size (by exact bw HB.out)) : w.heap.size ≤ gb205))
          have n7_ := Aside0.mk ((by rw [hg]; exact Nat.ne_of_lt (blk_lt (g := gb193) (o := .cells #[.slice Ao9 t187.length co9, .slice Ao11 t190.length co11] 25 (0, 0)) (by exact bk BK193.out)) : gb193 ≠ gb205))
          have n8_ := Aside0.mk ((by rw [hg]; exact Nat.ne_of_gt (blk_lt (g := gb193) (o := .cells #[.slice Ao9 t187.length co9, .slice Ao11 t190.length co11] 25 (0, 0)) (by exact bk BK193.out)) : gb205 ≠ gb193))
          clear HO189
          clear HO192
          clear BK193
          clear HB
          have HO189 := n0_
          have HO192 := n1_
          have BK193 := n2_
          have HB := n3_
          have BK205 := n4_
          have GW205 := n5_
          have GE205 := n6_
          have NB193_205 := n7_
          have NB205_193 := n8_
          clear n0_ n1_ n2_ n3_ n4_ n5_ n6_ n7_ n8_
          clear hb hbox hg
          refine hK.out _ _ ⟨(blk_cell BK193.out 0).trans rfl, (blk_cell BK193.out 1).trans rfl⟩ (fun hHeld => ?_)
          clear hK K
          refine norm_ (a' := ?_) ?_ ?_
          rotate_left
          ·
           show Act.put _ (some 5) _ = _
           simp only [Act.put, List.setIfInBounds_toArray, List.set_cons_zero, List.set_cons_succ, i64_w, i32_w]
           rfl
          refine one_ (i := 2) (N := some 19) laws_FnSchemaValid.m11 rfl rfl (one_of HT_.out (by kernel_rfl)) (by decide) (fun K hK => ?_)
          refine Kd.R_lit_step k83 _ 83 ?hg (N := 19) ?hd (xs := ([] : List (S83))) (inner := []) (ok := fun _ => True) (okp := fun _ => True) ?hr ?hp (fun _ hk => hk) trivial (Below.refl _ _) (Nat.le_refl _) (by simp) ?_; (case hd => rfl); (case hg => rfl); (case hr => first | (go_simp; done) | (go_simp; rfl)); (case hp => exact (Reps.none _ _))
          intro v197 w61 ho62 hb hg_ hnew_
          clear hg_ hnew_
          (first | rw [← Ny196.out] at ho62 | (simp only [Int.reduceToNat] at ho62; rw [← Ny196.out] at ho62))
          have n0_ := Aside0.mk (Kd.Q_elder' (by exact Kd.xQ HO189.out) (Kd.R_base ho62) hb)
          have n1_ := Aside0.mk (Kd.R_elder' (by exact Kd.xR HO192.out) (Kd.R_base ho62) hb)
          have n2_ := Aside0.mk (Kd.R_lower (Kd.R_new' (Kd.R_new' ho62 (Kd.Q_lt (by exact Kd.xQ HO189.out))) (Kd.R_lt (by exact Kd.xR HO192.out))) (below_size (by exact bw HB.out)))
          have n3_ := Aside0.mk (blk_below (g := gb193) (o := .cells #[.slice Ao9 t187.length co9, .slice Ao11 t190.length co11] 25 (0, 0)) (by exact bk BK193.out) hb)
          have n4_ := Aside0.mk (blk_below (g := gb205) (o := .cells #[.slice none 0 0, .slice none 0 0] 25 (0, 0)) (by exact bk BK205.out) hb)
          have n5_ := Aside0.mk (below_step (by exact bw HB.out) hb)
          clear HO189
          clear HO192
          clear BK193
          clear BK205
          clear HB
          have HO189 := n0_
          have HO192 := n1_
          have HO198 := n2_
          have BK193 := n3_
          have BK205 := n4_
          have HB := n5_
          clear n0_ n1_ n2_ n3_ n4_ n5_
          clear hb ho62
          refine hK.out _ _ ⟨(blk_cell BK193.out 0).trans rfl, (blk_cell BK193.out 1).trans rfl⟩ (fun hHeld => ?_)
          clear hK K
          refine norm_ (a' := ?_) ?_ ?_
          rotate_left
          ·
           show Act.put _ (some 19) _ = _
           simp only [Act.put, List.setIfInBounds_toArray, List.set_cons_zero, List.set_cons_succ, i64_w, i32_w]
           rfl
          refine one_ (i := 5) (N := some 22) laws_FnSchemaValid.m13 rfl rfl (one_of HT_.out (by kernel_rfl)) (by decide) (fun K hK => ?_)
          refine Kd.R_append_rows_step k83 (w0 := w) w.heap.size (by rfl) (.tmp 19) (.tmp 21) 23 83 (.agg #[(.string ⟨#[]⟩), (.int .i64 0)]) 24 rfl Try.underlying23 info83 rfl (by decide) (by omega) v197 y196 t190 _ _ _ (fun k_ => some k_ ≠ (.slice Ao9 t187.length co9 : Value).ownBlock ∧ some k_ ≠ (.slice Ao11 t190.length co11 : Value).ownBlock) (fun _ => False) rfl rfl ?aO ?aR (fun _ _ h => h) (fun _ h => h.elim) ?aF ?aB ?aS ?aL ?_
          (case aR => repeat (first | exact (Kd.R_reads' HO192.out).2.2 | (with_reducible refine Kd.C_alloc ?_ _) | (with_reducible refine Kd.C_drewN ?_ _) | (with_reducible refine Kd.C_drew ?_)))
          (case aB => exact (by exact bw HB.out))
          (case aF => exact (fun k_ hk => ⟨Kd.fresh' (Kd.Q_lt (by exact Kd.xQ HO189.out)) k_ hk, Kd.fresh' (Kd.R_lt (by exact Kd.xR HO192.out)) k_ hk⟩))
          (case aO => exact (by (with_reducible repeat (first | apply Kd.R_alloc | apply Kd.R_drewN | apply Kd.R_drew)); exact Kd.R_mono HO198.out (fun _ hk => okp hk)))
          (case aS => exact (below_size (by exact bw HB.out)))
          (case aL => have := LMc18.out; omega)
          intro v200 w63 ho hb hg hat
          rw [← Ny199.out] at ho
          have n0_ := Aside0.mk (Kd.Q_after (ok := (fun k_ => some k_ ≠ (.slice Ao11 t190.length co11 : Value).ownBlock)) (by exact Kd.xQ HO189.out) hg hat)
          have n1_ := Aside0.mk (Kd.R_after (ok := (fun k_ => some k_ ≠ (.slice Ao9 t187.length co9 : Value).ownBlock)) (by exact Kd.xR HO192.out) hg hat)
          have n2_ := Aside0.mk (blk_grown (g := gb193) (o := .cells #[.slice Ao9 t187.length co9, .slice Ao11 t190.length co11] 25 (0, 0)) (by exact bk BK193.out) hg (Kd.R_ne HO198.out BK193.out (by decide)))
          have n3_ := Aside0.mk (blk_grown (g := gb205) (o := .cells #[.slice none 0 0, .slice none 0 0] 25 (0, 0)) (by exact bk BK205.out) hg (Kd.R_ne HO198.out BK205.out (by decide)))
          have n4_ := Aside0.mk (hb)
          have n5_ := Aside0.mk (ho)
          clear HO189
          clear HO192
          clear BK193
          clear BK205
          clear HB
          clear HO198
          have HO189 := n0_
          have HO192 := n1_
          have BK193 := n2_
          have BK205 := n3_
          have HB := n4_
          have HO201 := n5_
          clear n0_ n1_ n2_ n3_ n4_ n5_
          clear ho hb hg hat
          refine hK.out _ _ ⟨(blk_cell BK193.out 0).trans rfl, (blk_cell BK193.out 1).trans rfl⟩ (fun hHeld => ?_)
          clear hK K
          refine norm_ (a' := ?_) ?_ ?_
          rotate_left
          ·
           show Act.put _ (some 22) _ = _
           simp only [Act.put, List.setIfInBounds_toArray, List.set_cons_zero, List.set_cons_succ, i64_w, i32_w]
           rfl
          refine one_ (i := 8) (N := some 25) laws_FnSchemaValid.m15 rfl rfl (one_of HT_.out (by kernel_rfl)) (by decide) (fun K hK => ?_)
          refine Kd.R_append_rows_step k83 (w0 := w) w.heap.size (by rfl) (.tmp 22) (.tmp 24) 23 83 (.agg #[(.string ⟨#[]⟩), (.int .i64 0)]) 24 rfl Try.underlying23 info83 rfl (by decide) (by omega) v200 y199 t190 _ _ _ (fun k_ => some k_ ≠ (.slice Ao9 t187.length co9 : Value).ownBlock ∧ some k_ ≠ (.slice Ao11 t190.length co11 : Value).ownBlock) (fun _ => False) rfl rfl ?aO ?aR (fun _ _ h => h) (fun _ h => h.elim) ?aF ?aB ?aS ?aL ?_
          (case aR => repeat (first | exact (Kd.R_reads' HO192.out).2.2 | (with_reducible refine Kd.C_alloc ?_ _) | (with_reducible refine Kd.C_drewN ?_ _) | (with_reducible refine Kd.C_drew ?_)))
          (case aB => exact (by exact bw HB.out))
          (case aF => exact (fun k_ hk => ⟨Kd.fresh' (Kd.Q_lt (by exact Kd.xQ HO189.out)) k_ hk, Kd.fresh' (Kd.R_lt (by exact Kd.xR HO192.out)) k_ hk⟩))
          (case aO => exact (by exact Kd.xR HO201.out))
          (case aS => exact (below_size (by exact bw HB.out)))
          (case aL => have := LMc19.out; omega)
          intro v203 w64 ho hb hg hat
          rw [← Ny202.out] at ho
          have n0_ := Aside0.mk (Kd.Q_after (ok := (fun k_ => some k_ ≠ (.slice Ao11 t190.length co11 : Value).ownBlock)) (by exact Kd.xQ HO189.out) hg hat)
          have n1_ := Aside0.mk (Kd.R_after (ok := (fun k_ => some k_ ≠ (.slice Ao9 t187.length co9 : Value).ownBlock)) (by exact Kd.xR HO192.out) hg hat)
          have n2_ := Aside0.mk (blk_grown (g := gb193) (o := .cells #[.slice Ao9 t187.length co9, .slice Ao11 t190.length co11] 25 (0, 0)) (by exact bk BK193.out) hg (Kd.R_ne HO201.out BK193.out (by decide)))
          have n3_ := Aside0.mk (blk_grown (g := gb205) (o := .cells #[.slice none 0 0, .slice none 0 0] 25 (0, 0)) (by exact bk BK205.out) hg (Kd.R_ne HO201.out BK205.out (by decide)))
          have n4_ := Aside0.mk (hb)
          have n5_ := Aside0.mk (ho)
          clear HO189
          clear HO192
          clear BK193
          clear BK205
          clear HB
          clear HO201
          have HO189 := n0_
          have HO192 := n1_
          have BK193 := n2_
          have BK205 := n3_
          have HB := n4_
          have HO204 := n5_
          clear n0_ n1_ n2_ n3_ n4_ n5_
          clear ho hb hg hat
          obtain ⟨Ao65, co65, eo65⟩ := Kd.R_slice HO204.out
          (first | subst eo65 | (injection eo65 with f1_ f2_ f3_; have f4_ := f1_.symm; have f5_ := f3_.symm; clear f1_ f2_ f3_; subst f4_; subst f5_))
          refine hK.out _ _ ⟨(blk_cell BK193.out 0).trans rfl, (blk_cell BK193.out 1).trans rfl⟩ (fun hHeld => ?_)
          clear hK K
          refine norm_ (a' := ?_) ?_ ?_
          rotate_left
          ·
           show Act.put _ (some 25) _ = _
           simp only [Act.put, List.setIfInBounds_toArray, List.set_cons_zero, List.set_cons_succ, i64_w, i32_w]
           rfl
          refine pure_ (i := 9) (N := some 26) (v := ?_) (a' := ?_) laws_FnSchemaValid.m7 rfl rfl (any_of HT_.out (by kernel_rfl)) (fun _ _ _ h => h) (Or.inl ⟨by rfl, ?_⟩) ?_ ?_
          rotate_left
          ·
           intro w'
           go_simp
           with_reducible rfl
          rotate_left
          ·
           simp only [Act.put, List.setIfInBounds_toArray, List.set_cons_zero, List.set_cons_succ, i64_w, i32_w]
           rfl
          exact norm_ (by simp only [putAll, Act.put, List.setIfInBounds_toArray, List.set_cons_zero, List.set_cons_succ]) (hCont (v197, v200, .slice Ao65 y202.length co65, gb205) _ ⟨hHeld, (by exact Kd.xQ HO189.out), (by exact Kd.xR HO192.out), (by exact Kd.xR HO204.out), (by exact bk BK193.out), (by exact bk BK205.out), GW205.out, GE205.out, NB193_205.out, NB205_193.out, (by exact bw HB.out)⟩)
        rintro ⟨v197, v200, v203, gb205⟩ w66 ⟨hS_, h0_, h1_, h2_, h3_, h4_, h5_, h6_, h7_, h8_, h9_⟩
        have n0_ : Aside0 (Kd.Q k83 83 w66 w.heap.size (fun k_ => some k_ ≠ (.slice Ao11 t190.length co11 : Value).ownBlock ∧ some k_ ≠ (v203 : Value).ownBlock) (.slice Ao9 t187.length co9) t187) := ⟨h0_⟩
        have n1_ : Aside0 (Kd.R k83 83 w66 w.heap.size (fun k_ => some k_ ≠ (.slice Ao9 t187.length co9 : Value).ownBlock ∧ some k_ ≠ (v203 : Value).ownBlock) (.slice Ao11 t190.length co11) t190) := ⟨h1_⟩
        have n2_ : Aside0 (Kd.R k83 83 w66 w.heap.size (fun k_ => some k_ ≠ (.slice Ao9 t187.length co9 : Value).ownBlock ∧ some k_ ≠ (.slice Ao11 t190.length co11 : Value).ownBlock) v203 y202) := ⟨h2_⟩
        have n3_ : Aside0 (w66.heap[gb193]? = some (.cells #[.slice Ao9 t187.length co9, .slice Ao11 t190.length co11] 25 (0, 0))) := ⟨h3_⟩
        have n4_ : Aside0 (w66.heap[gb205]? = some (.cells #[.slice none 0 0, .slice none 0 0] 25 (0, 0))) := ⟨h4_⟩
        have n5_ : Aside0 (w.heap.size ≤ gb205) := ⟨h5_⟩
        have n6_ : Aside0 (w.heap.size ≤ gb205) := ⟨h6_⟩
        have n7_ : Aside0 (gb193 ≠ gb205) := ⟨h7_⟩
        have n8_ : Aside0 (gb205 ≠ gb193) := ⟨h8_⟩
        have n9_ : Aside0 (Below w.heap.size w w66) := ⟨h9_⟩
        clear HO189
        clear HO192
        clear BK193
        clear HB
        clear h0_ h1_ h2_ h3_ h4_ h5_ h6_ h7_ h8_ h9_
        have HO189 := n0_
        have HO192 := n1_
        have HO204 := n2_
        have BK193 := n3_
        have BK205 := n4_
        have GW205 := n5_
        have GE205 := n6_
        have NB193_205 := n7_
        have NB205_193 := n8_
        have HB := n9_
        clear n0_ n1_ n2_ n3_ n4_ n5_ n6_ n7_ n8_ n9_
        have hHeld : w66.cell? ⟨gb193, 0, none⟩ = some (.slice Ao9 t187.length co9) ∧ w66.cell? ⟨gb193, 1, none⟩ = some (.slice Ao11 t190.length co11) := hS_
        obtain ⟨Ao67, co67, eo67⟩ := Kd.R_slice HO204.out
        (first | subst eo67 | (injection eo67 with f1_ f2_ f3_; have f4_ := f1_.symm; have f5_ := f3_.symm; clear f1_ f2_ f3_; subst f4_; subst f5_))
        refine norm_ (a' := ?_) ?_ ?_
        rotate_left
        ·
         simp only [putAll, Act.put, List.setIfInBounds_toArray, List.set_cons_zero, List.set_cons_succ]
         rfl
        refine one_ (i := 11) (N := none) laws_FnSchemaValid.m16 rfl rfl (one_of HT_.out (by kernel_rfl)) (by decide) (fun K hK => ?_)
        have hs68 : w66.cell? ⟨gb205, 0, none⟩ = some (.slice none 0 0) := (blk_cell BK205.out 0).trans rfl
        have hfs68 := blk_frozen BK205.out 0
        have hns68_0 := NB193_205.out
        have hms68_0 := NB205_193.out
        have hs69 : w66.cell? ⟨gb205, 1, none⟩ = some (.slice none 0 0) := (blk_cell BK205.out 1).trans rfl
        have hfs69 := blk_frozen BK205.out 1
        have hns69_0 := NB193_205.out
        have hms69_0 := NB205_193.out
        refine skip_ (w1 := ?_) (by rfl) rfl ?_ ?_
        rotate_left
        ·
         go_simp
         rfl
        refine hK.out _ _ ⟨((cell_far (p := ⟨gb205, _, none⟩) NB193_205.out _).trans (((cell_far (p := ⟨gb205, _, none⟩) NB193_205.out _).trans (hHeld.1)))), ((cell_far (p := ⟨gb205, _, none⟩) NB193_205.out _).trans (((cell_far (p := ⟨gb205, _, none⟩) NB193_205.out _).trans (hHeld.2))))⟩ (fun hHeld => ?_)
        clear hK K
        refine done_ (done_of HT_.out (by kernel_rfl)) ?_
        have n0_ : Aside0 (Kd.Q k83 83 ((w66.setCell ⟨gb205, 0, none⟩ (.slice Ao9 t187.length co9)).setCell ⟨gb205, 1, none⟩ (.slice Ao67 y202.length co67)) w.heap.size (fun k_ => some k_ ≠ (.slice Ao11 t190.length co11 : Value).ownBlock ∧ some k_ ≠ (.slice Ao67 y202.length co67 : Value).ownBlock) (.slice Ao9 t187.length co9) t187) := ⟨by (with_reducible repeat (first | apply Kd.Q_alloc | apply Kd.Q_drewN | apply Kd.Q_drew)); exact Kd.Q_mono (Kd.Q_far (p := ⟨gb205, 1, none⟩) (Kd.Q_far (p := ⟨gb205, 0, none⟩) (Kd.Q_types HO189.out BK205.out (by decide)) (fun _ hk => hk.2) (.slice Ao9 t187.length co9)) (fun _ hk => hk.2) (.slice Ao67 y202.length co67)) (fun _ hk => okp hk)⟩
        have n1_ : Aside0 (Kd.R k83 83 ((w66.setCell ⟨gb205, 0, none⟩ (.slice Ao9 t187.length co9)).setCell ⟨gb205, 1, none⟩ (.slice Ao67 y202.length co67)) w.heap.size (fun k_ => some k_ ≠ (.slice Ao9 t187.length co9 : Value).ownBlock ∧ some k_ ≠ (.slice Ao67 y202.length co67 : Value).ownBlock) (.slice Ao11 t190.length co11) t190) := ⟨by (with_reducible repeat (first | apply Kd.R_alloc | apply Kd.R_drewN | apply Kd.R_drew)); exact Kd.R_mono (Kd.R_far (p := ⟨gb205, 1, none⟩) (Kd.R_far (p := ⟨gb205, 0, none⟩) (Kd.R_types HO192.out BK205.out (by decide)) (fun _ hk => hk.2) (.slice Ao9 t187.length co9)) (fun _ hk => hk.2) (.slice Ao67 y202.length co67)) (fun _ hk => okp hk)⟩
        have n2_ : Aside0 (Kd.R k83 83 ((w66.setCell ⟨gb205, 0, none⟩ (.slice Ao9 t187.length co9)).setCell ⟨gb205, 1, none⟩ (.slice Ao67 y202.length co67)) w.heap.size (fun k_ => some k_ ≠ (.slice Ao9 t187.length co9 : Value).ownBlock ∧ some k_ ≠ (.slice Ao11 t190.length co11 : Value).ownBlock) (.slice Ao67 y202.length co67) y202) := ⟨by (with_reducible repeat (first | apply Kd.R_alloc | apply Kd.R_drewN | apply Kd.R_drew)); exact Kd.R_mono (Kd.R_far (p := ⟨gb205, 1, none⟩) (Kd.R_far (p := ⟨gb205, 0, none⟩) (Kd.R_types HO204.out BK205.out (by decide)) (fun _ hk => hk.2) (.slice Ao9 t187.length co9)) (fun _ hk => hk.2) (.slice Ao67 y202.length co67)) (fun _ hk => okp hk)⟩
        have n3_ : Aside0 (((w66.setCell ⟨gb205, 0, none⟩ (.slice Ao9 t187.length co9)).setCell ⟨gb205, 1, none⟩ (.slice Ao67 y202.length co67)).heap[gb193]? = some (.cells #[.slice Ao9 t187.length co9, .slice Ao11 t190.length co11] 25 (0, 0))) := ⟨by (with_reducible repeat (first | refine blk_drewN ?_ _ | refine blk_drew ?_ | refine blk_alloc ?_ _)); refine blk_far ?_ NB193_205.out _; (with_reducible repeat (first | refine blk_drewN ?_ _ | refine blk_drew ?_ | refine blk_alloc ?_ _)); refine blk_far ?_ NB193_205.out _; exact bk BK193.out⟩
        have n4_ : Aside0 (((w66.setCell ⟨gb205, 0, none⟩ (.slice Ao9 t187.length co9)).setCell ⟨gb205, 1, none⟩ (.slice Ao67 y202.length co67)).heap[gb205]? = some (.cells #[.slice Ao9 t187.length co9, .slice Ao67 y202.length co67] 25 (0, 0))) := ⟨by (with_reducible repeat (first | refine blk_drewN ?_ _ | refine blk_drew ?_ | refine blk_alloc ?_ _)); refine blk_put (cs := #[.slice Ao9 t187.length co9, .slice none 0 0]) ?_ 1 _ rfl; (with_reducible repeat (first | refine blk_drewN ?_ _ | refine blk_drew ?_ | refine blk_alloc ?_ _)); refine blk_put (cs := #[.slice none 0 0, .slice none 0 0]) ?_ 0 _ rfl; exact bk BK205.out⟩
        have n5_ : Aside0 (Below w.heap.size w ((w66.setCell ⟨gb205, 0, none⟩ (.slice Ao9 t187.length co9)).setCell ⟨gb205, 1, none⟩ (.slice Ao67 y202.length co67))) := ⟨by exact bw HB.out⟩
        (try clear HO189)
        (try clear HO192)
        (try clear HO204)
        (try clear BK193)
        (try clear BK205)
        (try clear HB)
        generalize ((w66.setCell ⟨gb205, 0, none⟩ (.slice Ao9 t187.length co9)).setCell ⟨gb205, 1, none⟩ (.slice Ao67 y202.length co67)) = w70 at n0_ n1_ n2_ n3_ n4_ n5_ ⊢
        have HO189 := n0_
        have HO192 := n1_
        have HO204 := n2_
        have BK193 := n3_
        have BK205 := n4_
        have HB := n5_
        clear n0_ n1_ n2_ n3_ n4_ n5_
        try go_wp2_with (first | ((with_reducible refine gate_callee (f := 12) rfl ?_); refine gl (some 28) Try.func12 #[.agg #[.slice none 0 0, .slice none 0 0]] ?_; (refine (impl_SchemaValid.calls k (fun k_ => False) _ _ ([] : List (S83)) (fun k_ => False) _ _ ([] : List (S83)) true _ ?side1 ?side2 A20.out).mono ?_); (case side1 => exact Kd.V_nil _ _ _ _ _); (case side2 => exact Kd.V_nil _ _ _ _ _); rintro e w71 ⟨rfl, hb⟩; refine ⟨_, rfl, ?_⟩; have n0_ := Aside0.mk (Kd.Q_below (by exact Kd.xQ HO189.out) hb); have n1_ := Aside0.mk (Kd.R_below (by exact Kd.xR HO192.out) hb); have n2_ := Aside0.mk (Kd.R_below (by exact Kd.xR HO204.out) hb); have n3_ := Aside0.mk (blk_below (g := gb193) (o := .cells #[.slice Ao9 t187.length co9, .slice Ao11 t190.length co11] 25 (0, 0)) (by exact bk BK193.out) hb); have n4_ := Aside0.mk (blk_below (g := gb205) (o := .cells #[.slice Ao9 t187.length co9, .slice Ao67 y202.length co67] 25 (0, 0)) (by exact bk BK205.out) hb); have n5_ := Aside0.mk (below_step (by exact bw HB.out) hb); clear HO189; clear HO192; clear HO204; clear BK193; clear BK205; clear HB; have HO189 := n0_; have HO192 := n1_; have HO204 := n2_; have BK193 := n3_; have BK205 := n4_; have HB := n5_; clear n0_ n1_ n2_ n3_ n4_ n5_; (try clear hb); (try clear hb2); (try clear hk); (try clear hi); have hnb72 := NB193_205.out; have hnc72 := NB205_193.out; have hcz73_0 : w71.cell? ⟨gb193, 0, none⟩ = some (.slice Ao9 t187.length co9) := (blk_cell BK193.out 0).trans rfl; have hcz73_1 : w71.cell? ⟨gb193, 1, none⟩ = some (.slice Ao11 t190.length co11) := (blk_cell BK193.out 1).trans rfl; have hfz73_0 := blk_frozen BK193.out 0; have hfz73_1 := blk_frozen BK193.out 1; have hcz74_0 : w71.cell? ⟨gb205, 0, none⟩ = some (.slice Ao9 t187.length co9) := (blk_cell BK205.out 0).trans rfl; have hcz74_1 : w71.cell? ⟨gb205, 1, none⟩ = some (.slice Ao67 y202.length co67) := (blk_cell BK205.out 1).trans rfl; have hfz74_0 := blk_frozen BK205.out 0; have hfz74_1 := blk_frozen BK205.out 1) | (go_at_call 12; (with_reducible refine (impl_SchemaValid.calls k (fun k_ => some k_ = (.slice Ao9 t187.length co9 : Value).ownBlock) _ _ t187 (fun k_ => some k_ = (.slice Ao67 y202.length co67 : Value).ownBlock) _ _ y202 false _ ?side1 ?side2 A39.out).mono ?_); (case side1 => exact Kd.Q_V (Kd.Q_tight rfl (Kd.Q_types (Kd.Q_types (HO189.out) BK193.out (by decide)) BK205.out (by decide)))); (case side2 => exact Kd.R_V (Kd.R_tight rfl (Kd.R_types (Kd.R_types (HO204.out) BK193.out (by decide)) BK205.out (by decide)))); rintro e w75 ⟨rfl, hb⟩; have n0_ := Aside0.mk (Kd.Q_below (by exact Kd.xQ HO189.out) hb); have n1_ := Aside0.mk (Kd.R_below (by exact Kd.xR HO192.out) hb); have n2_ := Aside0.mk (Kd.R_below (by exact Kd.xR HO204.out) hb); have n3_ := Aside0.mk (blk_below (g := gb193) (o := .cells #[.slice Ao9 t187.length co9, .slice Ao11 t190.length co11] 25 (0, 0)) (by exact bk BK193.out) hb); have n4_ := Aside0.mk (blk_below (g := gb205) (o := .cells #[.slice Ao9 t187.length co9, .slice Ao67 y202.length co67] 25 (0, 0)) (by exact bk BK205.out) hb); have n5_ := Aside0.mk (below_step (by exact bw HB.out) hb); clear HO189; clear HO192; clear HO204; clear BK193; clear BK205; clear HB; have HO189 := n0_; have HO192 := n1_; have HO204 := n2_; have BK193 := n3_; have BK205 := n4_; have HB := n5_; clear n0_ n1_ n2_ n3_ n4_ n5_; (try clear hb); (try clear hb2); (try clear hk); (try clear hi)) | (go_at_call 14; (with_reducible refine (laws_alive.calls k  t209 _ A58.out).mono ?_); rintro e w' ⟨rfl, ⟨nd, rfl⟩⟩; (try (rw [drewN_self w75]; generalize hq_ : World.drewN w75 _ = w75; have n0_ : Aside0 (Kd.Q k83 83 w75 w.heap.size (fun k_ => some k_ ≠ (.slice Ao11 t190.length co11 : Value).ownBlock ∧ some k_ ≠ (.slice Ao67 y202.length co67 : Value).ownBlock) (.slice Ao9 t187.length co9) t187) := ⟨by rw [← hq_]; exact (by exact Kd.xQ HO189.out)⟩; have n1_ : Aside0 (Kd.R k83 83 w75 w.heap.size (fun k_ => some k_ ≠ (.slice Ao9 t187.length co9 : Value).ownBlock ∧ some k_ ≠ (.slice Ao67 y202.length co67 : Value).ownBlock) (.slice Ao11 t190.length co11) t190) := ⟨by rw [← hq_]; exact (by exact Kd.xR HO192.out)⟩; have n2_ : Aside0 (Kd.R k83 83 w75 w.heap.size (fun k_ => some k_ ≠ (.slice Ao9 t187.length co9 : Value).ownBlock ∧ some k_ ≠ (.slice Ao11 t190.length co11 : Value).ownBlock) (.slice Ao67 y202.length co67) y202) := ⟨by rw [← hq_]; exact (by exact Kd.xR HO204.out)⟩; have n3_ : Aside0 (w75.heap[gb193]? = some (.cells #[.slice Ao9 t187.length co9, .slice Ao11 t190.length co11] 25 (0, 0))) := ⟨by rw [← hq_]; exact (by exact bk BK193.out)⟩; have n4_ : Aside0 (w75.heap[gb205]? = some (.cells #[.slice Ao9 t187.length co9, .slice Ao67 y202.length co67] 25 (0, 0))) := ⟨by rw [← hq_]; exact (by exact bk BK205.out)⟩; have n5_ : Aside0 (Below w.heap.size w w75) := ⟨by rw [← hq_]; exact (by exact bw HB.out)⟩; clear HO189 HO192 HO204 BK193 BK205 HB hq_; have HO189 := n0_; have HO192 := n1_; have HO204 := n2_; have BK193 := n3_; have BK205 := n4_; have HB := n5_; clear n0_ n1_ n2_ n3_ n4_ n5_))))
        go_ret
        exact ⟨by first | rfl | (simp [errW_none, errW_some] <;> rfl) | (simp [*, errW_none, errW_some] <;> rfl), by exact bw HB.out⟩
     ·
      replace c21 := Bool.eq_false_iff.mpr c21
      subst c21
      have H1 : (some false) = some r := by rw [if_neg (show ¬ (false = true) by decide)] at H; exact H
      clear H
      have H := H1
      clear H1
      obtain rfl := Option.some.inj H
      try go_wp2
      have n0_ := Aside0.mk (Kd.Q_drew HO189.out)
      have n1_ := Aside0.mk (Kd.R_drew HO192.out)
      have n2_ := Aside0.mk (blk_drew BK193.out)
      have n3_ := Aside0.mk (below_drew1 HB.out)
      clear HO189
      clear HO192
      clear BK193
      clear HB
      have HO189 := n0_
      have HO192 := n1_
      have BK193 := n2_
      have HB := n3_
      clear n0_ n1_ n2_ n3_
      refine start_ (n := 12) (S := fun w' => w'.cell? ⟨gb193, 0, none⟩ = some (.slice Ao9 t187.length co9) ∧ w'.cell? ⟨gb193, 1, none⟩ = some (.slice Ao11 t190.length co11)) (ds := []) laws_FnSchemaValid.m0 (by kernel_rfl) rfl rfl ⟨(blk_cell BK193.out 0).trans rfl, (blk_cell BK193.out 1).trans rfl⟩ (fun hHeld => ?_); refine with_tabW laws_FnSchemaValid.tab7 laws_FnSchemaValid.bits7 (fun HT_ HW_ => ?_)
      generalize w16.drew = w76 at HO189 HO192 BK193 HB hHeld ⊢
      refine pure_ (i := 0) (N := some 17) (v := ?_) (a' := ?_) laws_FnSchemaValid.m1 rfl rfl (any_of HT_.out (by kernel_rfl)) (fun _ _ _ h => h) (Or.inl ⟨by rfl, ?_⟩) ?_ ?_
      rotate_left
      ·
       intro w'
       go_simp
       with_reducible rfl
      rotate_left
      ·
       simp only [Act.put, List.setIfInBounds_toArray, List.set_cons_zero, List.set_cons_succ, i64_w, i32_w]
       rfl
      refine pure_ (i := 3) (N := some 20) (v := ?_) (a' := ?_) laws_FnSchemaValid.m2 rfl rfl (any_of HT_.out (by kernel_rfl)) (fun _ _ _ h => h) (Or.inl ⟨by rfl, ?_⟩) ?_ ?_
      rotate_left
      ·
       intro w'
       go_simp
       with_reducible rfl
      rotate_left
      ·
       simp only [Act.put, List.setIfInBounds_toArray, List.set_cons_zero, List.set_cons_succ, i64_w, i32_w]
       rfl
      refine pure_ (i := 6) (N := some 23) (v := ?_) (a' := ?_) laws_FnSchemaValid.m3 rfl rfl (any_of HT_.out (by kernel_rfl)) (fun _ _ _ h => h) (Or.inl ⟨by rfl, ?_⟩) ?_ ?_
      rotate_left
      ·
       intro w'
       go_simp
       with_reducible rfl
      rotate_left
      ·
       simp only [Act.put, List.setIfInBounds_toArray, List.set_cons_zero, List.set_cons_succ, i64_w, i32_w]
       rfl
      refine take_ (i := 1) (N := some 18) (v := ?_) (a' := ?_) laws_FnSchemaValid.m4 rfl rfl (take_ofW HT_.out HW_.out (by kernel_rfl)) (fun _ _ _ h => h) (Or.inl ⟨by rfl, ?_⟩) hHeld ?_ ?_
      rotate_left
      ·
       rintro w' ⟨s0, s1⟩
       go_simp
       with_reducible rfl
      rotate_left
      ·
       simp only [Act.put, List.setIfInBounds_toArray, List.set_cons_zero, List.set_cons_succ, i64_w, i32_w]
       rfl
      refine take_ (i := 4) (N := some 21) (v := ?_) (a' := ?_) laws_FnSchemaValid.m5 rfl rfl (take_ofW HT_.out HW_.out (by kernel_rfl)) (fun _ _ _ h => h) (Or.inl ⟨by rfl, ?_⟩) hHeld ?_ ?_
      rotate_left
      ·
       rintro w' ⟨s0, s1⟩
       go_simp
       with_reducible rfl
      rotate_left
      ·
       simp only [Act.put, List.setIfInBounds_toArray, List.set_cons_zero, List.set_cons_succ, i64_w, i32_w]
       rfl
      refine take_ (i := 7) (N := some 24) (v := ?_) (a' := ?_) laws_FnSchemaValid.m6 rfl rfl (take_ofW HT_.out HW_.out (by kernel_rfl)) (fun _ _ _ h => h) (Or.inl ⟨by rfl, ?_⟩) hHeld ?_ ?_
      rotate_left
      ·
       rintro w' ⟨s0, s1⟩
       go_simp
       with_reducible rfl
      rotate_left
      ·
       simp only [Act.put, List.setIfInBounds_toArray, List.set_cons_zero, List.set_cons_succ, i64_w, i32_w]
       rfl
      refine join_ (σ := Value × Value × Value × Nat) 1 laws_FnSchemaValid.m7 (fun s_ => [(19, s_.1), (22, s_.2.1), (25, s_.2.2.1), (5, .pointer (some ⟨s_.2.2.2, 0, none⟩)), (26, .agg #[.slice Ao9 t187.length co9, s_.2.2.1])]) (fun s_ w' => (w'.cell? ⟨gb193, 0, none⟩ = some (.slice Ao9 t187.length co9) ∧ w'.cell? ⟨gb193, 1, none⟩ = some (.slice Ao11 t190.length co11)) ∧ (Kd.Q k83 83 w' w.heap.size (fun k_ => some k_ ≠ (.slice Ao11 t190.length co11 : Value).ownBlock ∧ some k_ ≠ (s_.2.2.1 : Value).ownBlock) (.slice Ao9 t187.length co9) t187) ∧ (Kd.R k83 83 w' w.heap.size (fun k_ => some k_ ≠ (.slice Ao9 t187.length co9 : Value).ownBlock ∧ some k_ ≠ (s_.2.2.1 : Value).ownBlock) (.slice Ao11 t190.length co11) t190) ∧ (Kd.R k83 83 w' w.heap.size (fun k_ => some k_ ≠ (.slice Ao9 t187.length co9 : Value).ownBlock ∧ some k_ ≠ (.slice Ao11 t190.length co11 : Value).ownBlock) s_.2.2.1 y202) ∧ (w'.heap[gb193]? = some (.cells #[.slice Ao9 t187.length co9, .slice Ao11 t190.length co11] 25 (0, 0))) ∧ (w'.heap[s_.2.2.2]? = some (.cells #[.slice none 0 0, .slice none 0 0] 25 (0, 0))) ∧ (w.heap.size ≤ s_.2.2.2) ∧ (w.heap.size ≤ s_.2.2.2) ∧ (gb193 ≠ s_.2.2.2) ∧ (s_.2.2.2 ≠ gb193) ∧ (Below w.heap.size w w')) ?_ ?_
      rotate_left
      ·
       intro hCont
       refine two_ (i := 2) (j := 10) (Ni := some 19) (Nj := some 5) laws_FnSchemaValid.m8 laws_FnSchemaValid.m9 rfl rfl rfl rfl (two_of HT_.out (by kernel_rfl)) (by decide) (by decide) (fun K hK => ?_) (fun K hK => ?_)
       ·
        skip
        refine Kd.R_lit_step k83 _ 83 ?hg (N := 19) ?hd (xs := ([] : List (S83))) (inner := []) (ok := fun _ => True) (okp := fun _ => True) ?hr ?hp (fun _ hk => hk) trivial (Below.refl _ _) (Nat.le_refl _) (by simp) ?_; (case hd => rfl); (case hg => rfl); (case hr => first | (go_simp; done) | (go_simp; rfl)); (case hp => exact (Reps.none _ _))
        intro v197 w77 ho78 hb hg_ hnew_
        clear hg_ hnew_
        (first | rw [← Ny196.out] at ho78 | (simp only [Int.reduceToNat] at ho78; rw [← Ny196.out] at ho78))
        have n0_ := Aside0.mk (Kd.Q_elder' (by exact Kd.xQ HO189.out) (Kd.R_base ho78) hb)
        have n1_ := Aside0.mk (Kd.R_elder' (by exact Kd.xR HO192.out) (Kd.R_base ho78) hb)
        have n2_ := Aside0.mk (Kd.R_lower (Kd.R_new' (Kd.R_new' ho78 (Kd.Q_lt (by exact Kd.xQ HO189.out))) (Kd.R_lt (by exact Kd.xR HO192.out))) (below_size (by exact bw HB.out)))
        have n3_ := Aside0.mk (blk_below (g := gb193) (o := .cells #[.slice Ao9 t187.length co9, .slice Ao11 t190.length co11] 25 (0, 0)) (by exact bk BK193.out) hb)
        have n4_ := Aside0.mk (below_step (by exact bw HB.out) hb)
        clear HO189
        clear HO192
        clear BK193
        clear HB
        have HO189 := n0_
        have HO192 := n1_
        have HO198 := n2_
        have BK193 := n3_
        have HB := n4_
        clear n0_ n1_ n2_ n3_ n4_
        clear hb ho78
        refine hK.out _ _ ⟨(blk_cell BK193.out 0).trans rfl, (blk_cell BK193.out 1).trans rfl⟩ (fun hHeld => ?_)
        clear hK K
        refine norm_ (a' := ?_) ?_ ?_
        rotate_left
        ·
         show Act.put _ (some 19) _ = _
         simp only [Act.put, List.setIfInBounds_toArray, List.set_cons_zero, List.set_cons_succ, i64_w, i32_w]
         rfl
        refine two_ (i := 5) (j := 10) (Ni := some 22) (Nj := some 5) laws_FnSchemaValid.m10 laws_FnSchemaValid.m11 rfl rfl rfl rfl (two_of HT_.out (by kernel_rfl)) (by decide) (by decide) (fun K hK => ?_) (fun K hK => ?_)
        ·
         skip
         refine Kd.R_append_rows_step k83 (w0 := w) w.heap.size (by rfl) (.tmp 19) (.tmp 21) 23 83 (.agg #[(.string ⟨#[]⟩), (.int .i64 0)]) 24 rfl Try.underlying23 info83 rfl (by decide) (by omega) v197 y196 t190 _ _ _ (fun k_ => some k_ ≠ (.slice Ao9 t187.length co9 : Value).ownBlock ∧ some k_ ≠ (.slice Ao11 t190.length co11 : Value).ownBlock) (fun _ => False) rfl rfl ?aO ?aR (fun _ _ h => h) (fun _ h => h.elim) ?aF ?aB ?aS ?aL ?_
         (case aR => repeat (first | exact (Kd.R_reads' HO192.out).2.2 | (with_reducible refine Kd.C_alloc ?_ _) | (with_reducible refine Kd.C_drewN ?_ _) | (with_reducible refine Kd.C_drew ?_)))
         (case aB => exact (by exact bw HB.out))
         (case aF => exact (fun k_ hk => ⟨Kd.fresh' (Kd.Q_lt (by exact Kd.xQ HO189.out)) k_ hk, Kd.fresh' (Kd.R_lt (by exact Kd.xR HO192.out)) k_ hk⟩))
         (case aO => exact (by (with_reducible repeat (first | apply Kd.R_alloc | apply Kd.R_drewN | apply Kd.R_drew)); exact Kd.R_mono HO198.out (fun _ hk => okp hk)))
         (case aS => exact (below_size (by exact bw HB.out)))
         (case aL => have := LMc18.out; omega)
         intro v200 w79 ho hb hg hat
         rw [← Ny199.out] at ho
         have n0_ := Aside0.mk (Kd.Q_after (ok := (fun k_ => some k_ ≠ (.slice Ao11 t190.length co11 : Value).ownBlock)) (by exact Kd.xQ HO189.out) hg hat)
         have n1_ := Aside0.mk (Kd.R_after (ok := (fun k_ => some k_ ≠ (.slice Ao9 t187.length co9 : Value).ownBlock)) (by exact Kd.xR HO192.out) hg hat)
         have n2_ := Aside0.mk (blk_grown (g := gb193) (o := .cells #[.slice Ao9 t187.length co9, .slice Ao11 t190.length co11] 25 (0, 0)) (by exact bk BK193.out) hg (Kd.R_ne HO198.out BK193.out (by decide)))
         have n3_ := Aside0.mk (hb)
         have n4_ := Aside0.mk (ho)
         clear HO189
         clear HO192
         clear BK193
         clear HB
         clear HO198
         have HO189 := n0_
         have HO192 := n1_
         have BK193 := n2_
         have HB := n3_
         have HO201 := n4_
         clear n0_ n1_ n2_ n3_ n4_
         clear ho hb hg hat
         refine hK.out _ _ ⟨(blk_cell BK193.out 0).trans rfl, (blk_cell BK193.out 1).trans rfl⟩ (fun hHeld => ?_)
         clear hK K
         refine norm_ (a' := ?_) ?_ ?_
         rotate_left
         ·
          show Act.put _ (some 22) _ = _
          simp only [Act.put, List.setIfInBounds_toArray, List.set_cons_zero, List.set_cons_succ, i64_w, i32_w]
          rfl
         refine two_ (i := 8) (j := 10) (Ni := some 25) (Nj := some 5) laws_FnSchemaValid.m12 laws_FnSchemaValid.m13 rfl rfl rfl rfl (two_of HT_.out (by kernel_rfl)) (by decide) (by decide) (fun K hK => ?_) (fun K hK => ?_)
         ·
          skip
          refine Kd.R_append_rows_step k83 (w0 := w) w.heap.size (by rfl) (.tmp 22) (.tmp 24) 23 83 (.agg #[(.string ⟨#[]⟩), (.int .i64 0)]) 24 rfl Try.underlying23 info83 rfl (by decide) (by omega) v200 y199 t190 _ _ _ (fun k_ => some k_ ≠ (.slice Ao9 t187.length co9 : Value).ownBlock ∧ some k_ ≠ (.slice Ao11 t190.length co11 : Value).ownBlock) (fun _ => False) rfl rfl ?aO ?aR (fun _ _ h => h) (fun _ h => h.elim) ?aF ?aB ?aS ?aL ?_
          (case aR => repeat (first | exact (Kd.R_reads' HO192.out).2.2 | (with_reducible refine Kd.C_alloc ?_ _) | (with_reducible refine Kd.C_drewN ?_ _) | (with_reducible refine Kd.C_drew ?_)))
          (case aB => exact (by exact bw HB.out))
          (case aF => exact (fun k_ hk => ⟨Kd.fresh' (Kd.Q_lt (by exact Kd.xQ HO189.out)) k_ hk, Kd.fresh' (Kd.R_lt (by exact Kd.xR HO192.out)) k_ hk⟩))
          (case aO => exact (by exact Kd.xR HO201.out))
          (case aS => exact (below_size (by exact bw HB.out)))
          (case aL => have := LMc19.out; omega)
          intro v203 w80 ho hb hg hat
          rw [← Ny202.out] at ho
          have n0_ := Aside0.mk (Kd.Q_after (ok := (fun k_ => some k_ ≠ (.slice Ao11 t190.length co11 : Value).ownBlock)) (by exact Kd.xQ HO189.out) hg hat)
          have n1_ := Aside0.mk (Kd.R_after (ok := (fun k_ => some k_ ≠ (.slice Ao9 t187.length co9 : Value).ownBlock)) (by exact Kd.xR HO192.out) hg hat)
          have n2_ := Aside0.mk (blk_grown (g := gb193) (o := .cells #[.slice Ao9 t187.length co9, .slice Ao11 t190.length co11] 25 (0, 0)) (by exact bk BK193.out) hg (Kd.R_ne HO201.out BK193.out (by decide)))
          have n3_ := Aside0.mk (hb)
          have n4_ := Aside0.mk (ho)
          clear HO189
          clear HO192
          clear BK193
          clear HB
          clear HO201
          have HO189 := n0_
          have HO192 := n1_
          have BK193 := n2_
          have HB := n3_
          have HO204 := n4_
          clear n0_ n1_ n2_ n3_ n4_
          clear ho hb hg hat
          obtain ⟨Ao81, co81, eo81⟩ := Kd.R_slice HO204.out
          (first | subst eo81 | (injection eo81 with f1_ f2_ f3_; have f4_ := f1_.symm; have f5_ := f3_.symm; clear f1_ f2_ f3_; subst f4_; subst f5_))
          refine hK.out _ _ ⟨(blk_cell BK193.out 0).trans rfl, (blk_cell BK193.out 1).trans rfl⟩ (fun hHeld => ?_)
          clear hK K
          refine norm_ (a' := ?_) ?_ ?_
          rotate_left
          ·
           show Act.put _ (some 25) _ = _
           simp only [Act.put, List.setIfInBounds_toArray, List.set_cons_zero, List.set_cons_succ, i64_w, i32_w]
           rfl
          refine pure_ (i := 9) (N := some 26) (v := ?_) (a' := ?_) laws_FnSchemaValid.m14 rfl rfl (any_of HT_.out (by kernel_rfl)) (fun _ _ _ h => h) (Or.inl ⟨by rfl, ?_⟩) ?_ ?_
          rotate_left
          ·
           intro w'
           go_simp
           with_reducible rfl
          rotate_left
          ·
           simp only [Act.put, List.setIfInBounds_toArray, List.set_cons_zero, List.set_cons_succ, i64_w, i32_w]
           rfl
          refine one_ (i := 10) (N := some 5) laws_FnSchemaValid.m7 rfl rfl (one_of HT_.out (by kernel_rfl)) (by decide) (fun K hK => ?_)
          refine box_step ?hg (N := 5) ?hd (cs := #[.slice none 0 0, .slice none 0 0]) (t := 25) ?hr ?_; (case hd => rfl); (case hg => rfl); (case hr => first | (go_simp; done) | (go_simp; rfl))
          intro gb205 hg w82 hbox hb
          have n0_ := Aside0.mk (Kd.Q_below (by exact Kd.xQ HO189.out) hb)
          have n1_ := Aside0.mk (Kd.R_below (by exact Kd.xR HO192.out) hb)
          have n2_ := Aside0.mk (Kd.R_below (by exact Kd.xR HO204.out) hb)
          have n3_ := Aside0.mk (blk_below (g := gb193) (o := .cells #[.slice Ao9 t187.length co9, .slice Ao11 t190.length co11] 25 (0, 0)) (by exact bk BK193.out) hb)
          have n4_ := Aside0.mk (below_step (by exact bw HB.out) hb)
          have n5_ := Aside0.mk (hbox)
          have n6_ := Aside0.mk ((by rw [hg]; exact (below_size (by exact bw HB.out)) : w.heap.size ≤ gb205))
          have n7_ := Aside0.mk ((by rw [hg]; exact (below_size (by exact bw HB.out)) : w.heap.size ≤ gb205))
          have n8_ := Aside0.mk ((by rw [hg]; exact Nat.ne_of_lt (blk_lt (g := gb193) (o := .cells #[.slice Ao9 t187.length co9, .slice Ao11 t190.length co11] 25 (0, 0)) (by exact bk BK193.out)) : gb193 ≠ gb205))
          have n9_ := Aside0.mk ((by rw [hg]; exact Nat.ne_of_gt (blk_lt (g := gb193) (o := .cells #[.slice Ao9 t187.length co9, .slice Ao11 t190.length co11] 25 (0, 0)) (by exact bk BK193.out)) : gb205 ≠ gb193))
          clear HO189
          clear HO192
          clear HO204
          clear BK193
          clear HB
          have HO189 := n0_
          have HO192 := n1_
          have HO204 := n2_
          have BK193 := n3_
          have HB := n4_
          have BK205 := n5_
          have GW205 := n6_
          have GE205 := n7_
          have NB193_205 := n8_
          have NB205_193 := n9_
          clear n0_ n1_ n2_ n3_ n4_ n5_ n6_ n7_ n8_ n9_
          clear hb hbox hg
          refine hK.out _ _ ⟨(blk_cell BK193.out 0).trans rfl, (blk_cell BK193.out 1).trans rfl⟩ (fun hHeld => ?_)
          clear hK K
          refine norm_ (a' := ?_) ?_ ?_
          rotate_left
          ·
           show Act.put _ (some 5) _ = _
           simp only [Act.put, List.setIfInBounds_toArray, List.set_cons_zero, List.set_cons_succ, i64_w, i32_w]
           rfl
          exact norm_ (by simp only [putAll, Act.put, List.setIfInBounds_toArray, List.set_cons_zero, List.set_cons_succ]) (hCont (v197, v200, .slice Ao81 y202.length co81, gb205) _ ⟨hHeld, (by exact Kd.xQ HO189.out), (by exact Kd.xR HO192.out), (by exact Kd.xR HO204.out), (by exact bk BK193.out), (by exact bk BK205.out), GW205.out, GE205.out, NB193_205.out, NB205_193.out, (by exact bw HB.out)⟩)
         ·
          skip
          refine box_step ?hg (N := 5) ?hd (cs := #[.slice none 0 0, .slice none 0 0]) (t := 25) ?hr ?_; (case hd => rfl); (case hg => rfl); (case hr => first | (go_simp; done) | (go_simp; rfl))
          intro gb205 hg w80 hbox hb
          have n0_ := Aside0.mk (Kd.Q_below (by exact Kd.xQ HO189.out) hb)
          have n1_ := Aside0.mk (Kd.R_below (by exact Kd.xR HO192.out) hb)
          have n2_ := Aside0.mk (Kd.R_below (by exact Kd.xR HO201.out) hb)
          have n3_ := Aside0.mk (blk_below (g := gb193) (o := .cells #[.slice Ao9 t187.length co9, .slice Ao11 t190.length co11] 25 (0, 0)) (by exact bk BK193.out) hb)
          have n4_ := Aside0.mk (below_step (by exact bw HB.out) hb)
          have n5_ := Aside0.mk (hbox)
          have n6_ := Aside0.mk ((by rw [hg]; exact (below_size (by exact bw HB.out)) : w.heap.size ≤ gb205))
          have n7_ := Aside0.mk ((by rw [hg]; exact (below_size (by exact bw HB.out)) : w.heap.size ≤ gb205))
          have n8_ := Aside0.mk ((by rw [hg]; exact Nat.ne_of_lt (blk_lt (g := gb193) (o := .cells #[.slice Ao9 t187.length co9, .slice Ao11 t190.length co11] 25 (0, 0)) (by exact bk BK193.out)) : gb193 ≠ gb205))
          have n9_ := Aside0.mk ((by rw [hg]; exact Nat.ne_of_gt (blk_lt (g := gb193) (o := .cells #[.slice Ao9 t187.length co9, .slice Ao11 t190.length co11] 25 (0, 0)) (by exact bk BK193.out)) : gb205 ≠ gb193))
          clear HO189
          clear HO192
          clear HO201
          clear BK193
          clear HB
          have HO189 := n0_
          have HO192 := n1_
          have HO201 := n2_
          have BK193 := n3_
          have HB := n4_
          have BK205 := n5_
          have GW205 := n6_
          have GE205 := n7_
          have NB193_205 := n8_
          have NB205_193 := n9_
          clear n0_ n1_ n2_ n3_ n4_ n5_ n6_ n7_ n8_ n9_
          clear hb hbox hg
          refine hK.out _ _ ⟨(blk_cell BK193.out 0).trans rfl, (blk_cell BK193.out 1).trans rfl⟩ (fun hHeld => ?_)
          clear hK K
          refine norm_ (a' := ?_) ?_ ?_
          rotate_left
          ·
           show Act.put _ (some 5) _ = _
           simp only [Act.put, List.setIfInBounds_toArray, List.set_cons_zero, List.set_cons_succ, i64_w, i32_w]
           rfl
          refine one_ (i := 8) (N := some 25) laws_FnSchemaValid.m15 rfl rfl (one_of HT_.out (by kernel_rfl)) (by decide) (fun K hK => ?_)
          refine Kd.R_append_rows_step k83 (w0 := w) w.heap.size (by rfl) (.tmp 22) (.tmp 24) 23 83 (.agg #[(.string ⟨#[]⟩), (.int .i64 0)]) 24 rfl Try.underlying23 info83 rfl (by decide) (by omega) v200 y199 t190 _ _ _ (fun k_ => some k_ ≠ (.slice Ao9 t187.length co9 : Value).ownBlock ∧ some k_ ≠ (.slice Ao11 t190.length co11 : Value).ownBlock) (fun _ => False) rfl rfl ?aO ?aR (fun _ _ h => h) (fun _ h => h.elim) ?aF ?aB ?aS ?aL ?_
          (case aR => repeat (first | exact (Kd.R_reads' HO192.out).2.2 | (with_reducible refine Kd.C_alloc ?_ _) | (with_reducible refine Kd.C_drewN ?_ _) | (with_reducible refine Kd.C_drew ?_)))
          (case aB => exact (by exact bw HB.out))
          (case aF => exact (fun k_ hk => ⟨Kd.fresh' (Kd.Q_lt (by exact Kd.xQ HO189.out)) k_ hk, Kd.fresh' (Kd.R_lt (by exact Kd.xR HO192.out)) k_ hk⟩))
          (case aO => exact (by exact Kd.xR HO201.out))
          (case aS => exact (below_size (by exact bw HB.out)))
          (case aL => have := LMc19.out; omega)
          intro v203 w81 ho hb hg hat
          rw [← Ny202.out] at ho
          have n0_ := Aside0.mk (Kd.Q_after (ok := (fun k_ => some k_ ≠ (.slice Ao11 t190.length co11 : Value).ownBlock)) (by exact Kd.xQ HO189.out) hg hat)
          have n1_ := Aside0.mk (Kd.R_after (ok := (fun k_ => some k_ ≠ (.slice Ao9 t187.length co9 : Value).ownBlock)) (by exact Kd.xR HO192.out) hg hat)
          have n2_ := Aside0.mk (blk_grown (g := gb193) (o := .cells #[.slice Ao9 t187.length co9, .slice Ao11 t190.length co11] 25 (0, 0)) (by exact bk BK193.out) hg (Kd.R_ne HO201.out BK193.out (by decide)))
          have n3_ := Aside0.mk (blk_grown (g := gb205) (o := .cells #[.slice none 0 0, .slice none 0 0] 25 (0, 0)) (by exact bk BK205.out) hg (Kd.R_ne HO201.out BK205.out (by decide)))
          have n4_ := Aside0.mk (hb)
          have n5_ := Aside0.mk (ho)
          clear HO189
          clear HO192
          clear BK193
          clear BK205
          clear HB
          clear HO201
          have HO189 := n0_
          have HO192 := n1_
          have BK193 := n2_
          have BK205 := n3_
          have HB := n4_
          have HO204 := n5_
          clear n0_ n1_ n2_ n3_ n4_ n5_
          clear ho hb hg hat
          obtain ⟨Ao82, co82, eo82⟩ := Kd.R_slice HO204.out
          (first | subst eo82 | (injection eo82 with f1_ f2_ f3_; have f4_ := f1_.symm; have f5_ := f3_.symm; clear f1_ f2_ f3_; subst f4_; subst f5_))
          refine hK.out _ _ ⟨(blk_cell BK193.out 0).trans rfl, (blk_cell BK193.out 1).trans rfl⟩ (fun hHeld => ?_)
          clear hK K
          refine norm_ (a' := ?_) ?_ ?_
          rotate_left
          ·
           show Act.put _ (some 25) _ = _
           simp only [Act.put, List.setIfInBounds_toArray, List.set_cons_zero, List.set_cons_succ, i64_w, i32_w]
           rfl
          refine pure_ (i := 9) (N := some 26) (v := ?_) (a' := ?_) laws_FnSchemaValid.m7 rfl rfl (any_of HT_.out (by kernel_rfl)) (fun _ _ _ h => h) (Or.inl ⟨by rfl, ?_⟩) ?_ ?_
          rotate_left
          ·
           intro w'
           go_simp
           with_reducible rfl
          rotate_left
          ·
           simp only [Act.put, List.setIfInBounds_toArray, List.set_cons_zero, List.set_cons_succ, i64_w, i32_w]
           rfl
          exact norm_ (by simp only [putAll, Act.put, List.setIfInBounds_toArray, List.set_cons_zero, List.set_cons_succ]) (hCont (v197, v200, .slice Ao82 y202.length co82, gb205) _ ⟨hHeld, (by exact Kd.xQ HO189.out), (by exact Kd.xR HO192.out), (by exact Kd.xR HO204.out), (by exact bk BK193.out), (by exact bk BK205.out), GW205.out, GE205.out, NB193_205.out, NB205_193.out, (by exact bw HB.out)⟩)
        ·
         skip
         refine box_step ?hg (N := 5) ?hd (cs := #[.slice none 0 0, .slice none 0 0]) (t := 25) ?hr ?_; (case hd => rfl); (case hg => rfl); (case hr => first | (go_simp; done) | (go_simp; rfl))
         intro gb205 hg w79 hbox hb
         have n0_ := Aside0.mk (Kd.Q_below (by exact Kd.xQ HO189.out) hb)
         have n1_ := Aside0.mk (Kd.R_below (by exact Kd.xR HO192.out) hb)
         have n2_ := Aside0.mk (Kd.R_below (by exact Kd.xR HO198.out) hb)
         have n3_ := Aside0.mk (blk_below (g := gb193) (o := .cells #[.slice Ao9 t187.length co9, .slice Ao11 t190.length co11] 25 (0, 0)) (by exact bk BK193.out) hb)
         have n4_ := Aside0.mk (below_step (by exact bw HB.out) hb)
         have n5_ := Aside0.mk (hbox)
         have n6_ := Aside0.mk ((by rw [hg]; exact (below_size (by exact bw HB.out)) : w.heap.size ≤ gb205))
         have n7_ := Aside0.mk ((by rw [hg]; exact (below_size (by exact bw HB.out)) : w.heap.size ≤ gb205))
         have n8_ := Aside0.mk ((by rw [hg]; exact Nat.ne_of_lt (blk_lt (g := gb193) (o := .cells #[.slice Ao9 t187.length co9, .slice Ao11 t190.length co11] 25 (0, 0)) (by exact bk BK193.out)) : gb193 ≠ gb205))
         have n9_ := Aside0.mk ((by rw [hg]; exact Nat.ne_of_gt (blk_lt (g := gb193) (o := .cells #[.slice Ao9 t187.length co9, .slice Ao11 t190.length co11] 25 (0, 0)) (by exact bk BK193.out)) : gb205 ≠ gb193))
         clear HO189
         clear HO192
         clear HO198
         clear BK193
         clear HB
         have HO189 := n0_
         have HO192 := n1_
         have HO198 := n2_
         have BK193 := n3_
         have HB := n4_
         have BK205 := n5_
         have GW205 := n6_
         have GE205 := n7_
         have NB193_205 := n8_
         have NB205_193 := n9_
         clear n0_ n1_ n2_ n3_ n4_ n5_ n6_ n7_ n8_ n9_
         clear hb hbox hg
         refine hK.out _ _ ⟨(blk_cell BK193.out 0).trans rfl, (blk_cell BK193.out 1).trans rfl⟩ (fun hHeld => ?_)
         clear hK K
         refine norm_ (a' := ?_) ?_ ?_
         rotate_left
         ·
          show Act.put _ (some 5) _ = _
          simp only [Act.put, List.setIfInBounds_toArray, List.set_cons_zero, List.set_cons_succ, i64_w, i32_w]
          rfl
         refine one_ (i := 5) (N := some 22) laws_FnSchemaValid.m13 rfl rfl (one_of HT_.out (by kernel_rfl)) (by decide) (fun K hK => ?_)
         refine Kd.R_append_rows_step k83 (w0 := w) w.heap.size (by rfl) (.tmp 19) (.tmp 21) 23 83 (.agg #[(.string ⟨#[]⟩), (.int .i64 0)]) 24 rfl Try.underlying23 info83 rfl (by decide) (by omega) v197 y196 t190 _ _ _ (fun k_ => some k_ ≠ (.slice Ao9 t187.length co9 : Value).ownBlock ∧ some k_ ≠ (.slice Ao11 t190.length co11 : Value).ownBlock) (fun _ => False) rfl rfl ?aO ?aR (fun _ _ h => h) (fun _ h => h.elim) ?aF ?aB ?aS ?aL ?_
         (case aR => repeat (first | exact (Kd.R_reads' HO192.out).2.2 | (with_reducible refine Kd.C_alloc ?_ _) | (with_reducible refine Kd.C_drewN ?_ _) | (with_reducible refine Kd.C_drew ?_)))
         (case aB => exact (by exact bw HB.out))
         (case aF => exact (fun k_ hk => ⟨Kd.fresh' (Kd.Q_lt (by exact Kd.xQ HO189.out)) k_ hk, Kd.fresh' (Kd.R_lt (by exact Kd.xR HO192.out)) k_ hk⟩))
         (case aO => exact (by (with_reducible repeat (first | apply Kd.R_alloc | apply Kd.R_drewN | apply Kd.R_drew)); exact Kd.R_mono HO198.out (fun _ hk => okp hk)))
         (case aS => exact (below_size (by exact bw HB.out)))
         (case aL => have := LMc18.out; omega)
         intro v200 w80 ho hb hg hat
         rw [← Ny199.out] at ho
         have n0_ := Aside0.mk (Kd.Q_after (ok := (fun k_ => some k_ ≠ (.slice Ao11 t190.length co11 : Value).ownBlock)) (by exact Kd.xQ HO189.out) hg hat)
         have n1_ := Aside0.mk (Kd.R_after (ok := (fun k_ => some k_ ≠ (.slice Ao9 t187.length co9 : Value).ownBlock)) (by exact Kd.xR HO192.out) hg hat)
         have n2_ := Aside0.mk (blk_grown (g := gb193) (o := .cells #[.slice Ao9 t187.length co9, .slice Ao11 t190.length co11] 25 (0, 0)) (by exact bk BK193.out) hg (Kd.R_ne HO198.out BK193.out (by decide)))
         have n3_ := Aside0.mk (blk_grown (g := gb205) (o := .cells #[.slice none 0 0, .slice none 0 0] 25 (0, 0)) (by exact bk BK205.out) hg (Kd.R_ne HO198.out BK205.out (by decide)))
         have n4_ := Aside0.mk (hb)
         have n5_ := Aside0.mk (ho)
         clear HO189
         clear HO192
         clear BK193
         clear BK205
         clear HB
         clear HO198
         have HO189 := n0_
         have HO192 := n1_
         have BK193 := n2_
         have BK205 := n3_
         have HB := n4_
         have HO201 := n5_
         clear n0_ n1_ n2_ n3_ n4_ n5_
         clear ho hb hg hat
         refine hK.out _ _ ⟨(blk_cell BK193.out 0).trans rfl, (blk_cell BK193.out 1).trans rfl⟩ (fun hHeld => ?_)
         clear hK K
         refine norm_ (a' := ?_) ?_ ?_
         rotate_left
         ·
          show Act.put _ (some 22) _ = _
          simp only [Act.put, List.setIfInBounds_toArray, List.set_cons_zero, List.set_cons_succ, i64_w, i32_w]
          rfl
         refine one_ (i := 8) (N := some 25) laws_FnSchemaValid.m15 rfl rfl (one_of HT_.out (by kernel_rfl)) (by decide) (fun K hK => ?_)
         refine Kd.R_append_rows_step k83 (w0 := w) w.heap.size (by rfl) (.tmp 22) (.tmp 24) 23 83 (.agg #[(.string ⟨#[]⟩), (.int .i64 0)]) 24 rfl Try.underlying23 info83 rfl (by decide) (by omega) v200 y199 t190 _ _ _ (fun k_ => some k_ ≠ (.slice Ao9 t187.length co9 : Value).ownBlock ∧ some k_ ≠ (.slice Ao11 t190.length co11 : Value).ownBlock) (fun _ => False) rfl rfl ?aO ?aR (fun _ _ h => h) (fun _ h => h.elim) ?aF ?aB ?aS ?aL ?_
         (case aR => repeat (first | exact (Kd.R_reads' HO192.out).2.2 | (with_reducible refine Kd.C_alloc ?_ _) | (with_reducible refine Kd.C_drewN ?_ _) | (with_reducible refine Kd.C_drew ?_)))
         (case aB => exact (by exact bw HB.out))
         (case aF => exact (fun k_ hk => ⟨Kd.fresh' (Kd.Q_lt (by exact Kd.xQ HO189.out)) k_ hk, Kd.fresh' (Kd.R_lt (by exact Kd.xR HO192.out)) k_ hk⟩))
         (case aO => exact (by exact Kd.xR HO201.out))
         (case aS => exact (below_size (by exact bw HB.out)))
         (case aL => have := LMc19.out; omega)
         intro v203 w81 ho hb hg hat
         rw [← Ny202.out] at ho
         have n0_ := Aside0.mk (Kd.Q_after (ok := (fun k_ => some k_ ≠ (.slice Ao11 t190.length co11 : Value).ownBlock)) (by exact Kd.xQ HO189.out) hg hat)
         have n1_ := Aside0.mk (Kd.R_after (ok := (fun k_ => some k_ ≠ (.slice Ao9 t187.length co9 : Value).ownBlock)) (by exact Kd.xR HO192.out) hg hat)
         have n2_ := Aside0.mk (blk_grown (g := gb193) (o := .cells #[.slice Ao9 t187.length co9, .slice Ao11 t190.length co11] 25 (0, 0)) (by exact bk BK193.out) hg (Kd.R_ne HO201.out BK193.out (by decide)))
         have n3_ := Aside0.mk (blk_grown (g := gb205) (o := .cells #[.slice none 0 0, .slice none 0 0] 25 (0, 0)) (by exact bk BK205.out) hg (Kd.R_ne HO201.out BK205.out (by decide)))
         have n4_ := Aside0.mk (hb)
         have n5_ := Aside0.mk (ho)
         clear HO189
         clear HO192
         clear BK193
         clear BK205
         clear HB
         clear HO201
         have HO189 := n0_
         have HO192 := n1_
         have BK193 := n2_
         have BK205 := n3_
         have HB := n4_
         have HO204 := n5_
         clear n0_ n1_ n2_ n3_ n4_ n5_
         clear ho hb hg hat
         obtain ⟨Ao82, co82, eo82⟩ := Kd.R_slice HO204.out
         (first | subst eo82 | (injection eo82 with f1_ f2_ f3_; have f4_ := f1_.symm; have f5_ := f3_.symm; clear f1_ f2_ f3_; subst f4_; subst f5_))
         refine hK.out _ _ ⟨(blk_cell BK193.out 0).trans rfl, (blk_cell BK193.out 1).trans rfl⟩ (fun hHeld => ?_)
         clear hK K
         refine norm_ (a' := ?_) ?_ ?_
         rotate_left
         ·
          show Act.put _ (some 25) _ = _
          simp only [Act.put, List.setIfInBounds_toArray, List.set_cons_zero, List.set_cons_succ, i64_w, i32_w]
          rfl
         refine pure_ (i := 9) (N := some 26) (v := ?_) (a' := ?_) laws_FnSchemaValid.m7 rfl rfl (any_of HT_.out (by kernel_rfl)) (fun _ _ _ h => h) (Or.inl ⟨by rfl, ?_⟩) ?_ ?_
         rotate_left
         ·
          intro w'
          go_simp
          with_reducible rfl
         rotate_left
         ·
          simp only [Act.put, List.setIfInBounds_toArray, List.set_cons_zero, List.set_cons_succ, i64_w, i32_w]
          rfl
         exact norm_ (by simp only [putAll, Act.put, List.setIfInBounds_toArray, List.set_cons_zero, List.set_cons_succ]) (hCont (v197, v200, .slice Ao82 y202.length co82, gb205) _ ⟨hHeld, (by exact Kd.xQ HO189.out), (by exact Kd.xR HO192.out), (by exact Kd.xR HO204.out), (by exact bk BK193.out), (by exact bk BK205.out), GW205.out, GE205.out, NB193_205.out, NB205_193.out, (by exact bw HB.out)⟩)
       ·
        skip
        refine box_step ?hg (N := 5) ?hd (cs := #[.slice none 0 0, .slice none 0 0]) (t := 25) ?hr ?_; (case hd => rfl); (case hg => rfl); (case hr => first | (go_simp; done) | (go_simp; rfl))
        intro gb205 hg w77 hbox hb
        have n0_ := Aside0.mk (Kd.Q_below (by exact Kd.xQ HO189.out) hb)
        have n1_ := Aside0.mk (Kd.R_below (by exact Kd.xR HO192.out) hb)
        have n2_ := Aside0.mk (blk_below (g := gb193) (o := .cells #[.slice Ao9 t187.length co9, .slice Ao11 t190.length co11] 25 (0, 0)) (by exact bk BK193.out) hb)
        have n3_ := Aside0.mk (below_step (by exact bw HB.out) hb)
        have n4_ := Aside0.mk (hbox)
        have n5_ := Aside0.mk ((by rw [hg]; exact (below_size (by exact bw HB.out)) : w.heap.size ≤ gb205))
        have n6_ := Aside0.mk ((by rw [hg]; exact (below_size (by exact bw HB.out)) : w.heap.size ≤ gb205))
        have n7_ := Aside0.mk ((by rw [hg]; exact Nat.ne_of_lt (blk_lt (g := gb193) (o := .cells #[.slice Ao9 t187.length co9, .slice Ao11 t190.length co11] 25 (0, 0)) (by exact bk BK193.out)) : gb193 ≠ gb205))
        have n8_ := Aside0.mk ((by rw [hg]; exact Nat.ne_of_gt (blk_lt (g := gb193) (o := .cells #[.slice Ao9 t187.length co9, .slice Ao11 t190.length co11] 25 (0, 0)) (by exact bk BK193.out)) : gb205 ≠ gb193))
        clear HO189
        clear HO192
        clear BK193
        clear HB
        have HO189 := n0_
        have HO192 := n1_
        have BK193 := n2_
        have HB := n3_
        have BK205 := n4_
        have GW205 := n5_
        have GE205 := n6_
        have NB193_205 := n7_
        have NB205_193 := n8_
        clear n0_ n1_ n2_ n3_ n4_ n5_ n6_ n7_ n8_
        clear hb hbox hg
        refine hK.out _ _ ⟨(blk_cell BK193.out 0).trans rfl, (blk_cell BK193.out 1).trans rfl⟩ (fun hHeld => ?_)
        clear hK K
        refine norm_ (a' := ?_) ?_ ?_
        rotate_left
        ·
         show Act.put _ (some 5) _ = _
         simp only [Act.put, List.setIfInBounds_toArray, List.set_cons_zero, List.set_cons_succ, i64_w, i32_w]
         rfl
        refine one_ (i := 2) (N := some 19) laws_FnSchemaValid.m11 rfl rfl (one_of HT_.out (by kernel_rfl)) (by decide) (fun K hK => ?_)
        refine Kd.R_lit_step k83 _ 83 ?hg (N := 19) ?hd (xs := ([] : List (S83))) (inner := []) (ok := fun _ => True) (okp := fun _ => True) ?hr ?hp (fun _ hk => hk) trivial (Below.refl _ _) (Nat.le_refl _) (by simp) ?_; (case hd => rfl); (case hg => rfl); (case hr => first | (go_simp; done) | (go_simp; rfl)); (case hp => exact (Reps.none _ _))
        intro v197 w78 ho79 hb hg_ hnew_
        clear hg_ hnew_
        (first | rw [← Ny196.out] at ho79 | (simp only [Int.reduceToNat] at ho79; rw [← Ny196.out] at ho79))
        have n0_ := Aside0.mk (Kd.Q_elder' (by exact Kd.xQ HO189.out) (Kd.R_base ho79) hb)
        have n1_ := Aside0.mk (Kd.R_elder' (by exact Kd.xR HO192.out) (Kd.R_base ho79) hb)
        have n2_ := Aside0.mk (Kd.R_lower (Kd.R_new' (Kd.R_new' ho79 (Kd.Q_lt (by exact Kd.xQ HO189.out))) (Kd.R_lt (by exact Kd.xR HO192.out))) (below_size (by exact bw HB.out)))
        have n3_ := Aside0.mk (blk_below (g := gb193) (o := .cells #[.slice Ao9 t187.length co9, .slice Ao11 t190.length co11] 25 (0, 0)) (by exact bk BK193.out) hb)
        have n4_ := Aside0.mk (blk_below (g := gb205) (o := .cells #[.slice none 0 0, .slice none 0 0] 25 (0, 0)) (by exact bk BK205.out) hb)
        have n5_ := Aside0.mk (below_step (by exact bw HB.out) hb)
        clear HO189
        clear HO192
        clear BK193
        clear BK205
        clear HB
        have HO189 := n0_
        have HO192 := n1_
        have HO198 := n2_
        have BK193 := n3_
        have BK205 := n4_
        have HB := n5_
        clear n0_ n1_ n2_ n3_ n4_ n5_
        clear hb ho79
        refine hK.out _ _ ⟨(blk_cell BK193.out 0).trans rfl, (blk_cell BK193.out 1).trans rfl⟩ (fun hHeld => ?_)
        clear hK K
        refine norm_ (a' := ?_) ?_ ?_
        rotate_left
        ·
         show Act.put _ (some 19) _ = _
         simp only [Act.put, List.setIfInBounds_toArray, List.set_cons_zero, List.set_cons_succ, i64_w, i32_w]
         rfl
        refine one_ (i := 5) (N := some 22) laws_FnSchemaValid.m13 rfl rfl (one_of HT_.out (by kernel_rfl)) (by decide) (fun K hK => ?_)
        refine Kd.R_append_rows_step k83 (w0 := w) w.heap.size (by rfl) (.tmp 19) (.tmp 21) 23 83 (.agg #[(.string ⟨#[]⟩), (.int .i64 0)]) 24 rfl Try.underlying23 info83 rfl (by decide) (by omega) v197 y196 t190 _ _ _ (fun k_ => some k_ ≠ (.slice Ao9 t187.length co9 : Value).ownBlock ∧ some k_ ≠ (.slice Ao11 t190.length co11 : Value).ownBlock) (fun _ => False) rfl rfl ?aO ?aR (fun _ _ h => h) (fun _ h => h.elim) ?aF ?aB ?aS ?aL ?_
        (case aR => repeat (first | exact (Kd.R_reads' HO192.out).2.2 | (with_reducible refine Kd.C_alloc ?_ _) | (with_reducible refine Kd.C_drewN ?_ _) | (with_reducible refine Kd.C_drew ?_)))
        (case aB => exact (by exact bw HB.out))
        (case aF => exact (fun k_ hk => ⟨Kd.fresh' (Kd.Q_lt (by exact Kd.xQ HO189.out)) k_ hk, Kd.fresh' (Kd.R_lt (by exact Kd.xR HO192.out)) k_ hk⟩))
        (case aO => exact (by (with_reducible repeat (first | apply Kd.R_alloc | apply Kd.R_drewN | apply Kd.R_drew)); exact Kd.R_mono HO198.out (fun _ hk => okp hk)))
        (case aS => exact (below_size (by exact bw HB.out)))
        (case aL => have := LMc18.out; omega)
        intro v200 w80 ho hb hg hat
        rw [← Ny199.out] at ho
        have n0_ := Aside0.mk (Kd.Q_after (ok := (fun k_ => some k_ ≠ (.slice Ao11 t190.length co11 : Value).ownBlock)) (by exact Kd.xQ HO189.out) hg hat)
        have n1_ := Aside0.mk (Kd.R_after (ok := (fun k_ => some k_ ≠ (.slice Ao9 t187.length co9 : Value).ownBlock)) (by exact Kd.xR HO192.out) hg hat)
        have n2_ := Aside0.mk (blk_grown (g := gb193) (o := .cells #[.slice Ao9 t187.length co9, .slice Ao11 t190.length co11] 25 (0, 0)) (by exact bk BK193.out) hg (Kd.R_ne HO198.out BK193.out (by decide)))
        have n3_ := Aside0.mk (blk_grown (g := gb205) (o := .cells #[.slice none 0 0, .slice none 0 0] 25 (0, 0)) (by exact bk BK205.out) hg (Kd.R_ne HO198.out BK205.out (by decide)))
        have n4_ := Aside0.mk (hb)
        have n5_ := Aside0.mk (ho)
        clear HO189
        clear HO192
        clear BK193
        clear BK205
        clear HB
        clear HO198
        have HO189 := n0_
        have HO192 := n1_
        have BK193 := n2_
        have BK205 := n3_
        have HB := n4_
        have HO201 := n5_
        clear n0_ n1_ n2_ n3_ n4_ n5_
        clear ho hb hg hat
        refine hK.out _ _ ⟨(blk_cell BK193.out 0).trans rfl, (blk_cell BK193.out 1).trans rfl⟩ (fun hHeld => ?_)
        clear hK K
        refine norm_ (a' := ?_) ?_ ?_
        rotate_left
        ·
         show Act.put _ (some 22) _ = _
         simp only [Act.put, List.setIfInBounds_toArray, List.set_cons_zero, List.set_cons_succ, i64_w, i32_w]
         rfl
        refine one_ (i := 8) (N := some 25) laws_FnSchemaValid.m15 rfl rfl (one_of HT_.out (by kernel_rfl)) (by decide) (fun K hK => ?_)
        refine Kd.R_append_rows_step k83 (w0 := w) w.heap.size (by rfl) (.tmp 22) (.tmp 24) 23 83 (.agg #[(.string ⟨#[]⟩), (.int .i64 0)]) 24 rfl Try.underlying23 info83 rfl (by decide) (by omega) v200 y199 t190 _ _ _ (fun k_ => some k_ ≠ (.slice Ao9 t187.length co9 : Value).ownBlock ∧ some k_ ≠ (.slice Ao11 t190.length co11 : Value).ownBlock) (fun _ => False) rfl rfl ?aO ?aR (fun _ _ h => h) (fun _ h => h.elim) ?aF ?aB ?aS ?aL ?_
        (case aR => repeat (first | exact (Kd.R_reads' HO192.out).2.2 | (with_reducible refine Kd.C_alloc ?_ _) | (with_reducible refine Kd.C_drewN ?_ _) | (with_reducible refine Kd.C_drew ?_)))
        (case aB => exact (by exact bw HB.out))
        (case aF => exact (fun k_ hk => ⟨Kd.fresh' (Kd.Q_lt (by exact Kd.xQ HO189.out)) k_ hk, Kd.fresh' (Kd.R_lt (by exact Kd.xR HO192.out)) k_ hk⟩))
        (case aO => exact (by exact Kd.xR HO201.out))
        (case aS => exact (below_size (by exact bw HB.out)))
        (case aL => have := LMc19.out; omega)
        intro v203 w81 ho hb hg hat
        rw [← Ny202.out] at ho
        have n0_ := Aside0.mk (Kd.Q_after (ok := (fun k_ => some k_ ≠ (.slice Ao11 t190.length co11 : Value).ownBlock)) (by exact Kd.xQ HO189.out) hg hat)
        have n1_ := Aside0.mk (Kd.R_after (ok := (fun k_ => some k_ ≠ (.slice Ao9 t187.length co9 : Value).ownBlock)) (by exact Kd.xR HO192.out) hg hat)
        have n2_ := Aside0.mk (blk_grown (g := gb193) (o := .cells #[.slice Ao9 t187.length co9, .slice Ao11 t190.length co11] 25 (0, 0)) (by exact bk BK193.out) hg (Kd.R_ne HO201.out BK193.out (by decide)))
        have n3_ := Aside0.mk (blk_grown (g := gb205) (o := .cells #[.slice none 0 0, .slice none 0 0] 25 (0, 0)) (by exact bk BK205.out) hg (Kd.R_ne HO201.out BK205.out (by decide)))
        have n4_ := Aside0.mk (hb)
        have n5_ := Aside0.mk (ho)
        clear HO189
        clear HO192
        clear BK193
        clear BK205
        clear HB
        clear HO201
        have HO189 := n0_
        have HO192 := n1_
        have BK193 := n2_
        have BK205 := n3_
        have HB := n4_
        have HO204 := n5_
        clear n0_ n1_ n2_ n3_ n4_ n5_
        clear ho hb hg hat
        obtain ⟨Ao82, co82, eo82⟩ := Kd.R_slice HO204.out
        (first | subst eo82 | (injection eo82 with f1_ f2_ f3_; have f4_ := f1_.symm; have f5_ := f3_.symm; clear f1_ f2_ f3_; subst f4_; subst f5_))
        refine hK.out _ _ ⟨(blk_cell BK193.out 0).trans rfl, (blk_cell BK193.out 1).trans rfl⟩ (fun hHeld => ?_)
        clear hK K
        refine norm_ (a' := ?_) ?_ ?_
        rotate_left
        ·
         show Act.put _ (some 25) _ = _
         simp only [Act.put, List.setIfInBounds_toArray, List.set_cons_zero, List.set_cons_succ, i64_w, i32_w]
         rfl
        refine pure_ (i := 9) (N := some 26) (v := ?_) (a' := ?_) laws_FnSchemaValid.m7 rfl rfl (any_of HT_.out (by kernel_rfl)) (fun _ _ _ h => h) (Or.inl ⟨by rfl, ?_⟩) ?_ ?_
        rotate_left
        ·
         intro w'
         go_simp
         with_reducible rfl
        rotate_left
        ·
         simp only [Act.put, List.setIfInBounds_toArray, List.set_cons_zero, List.set_cons_succ, i64_w, i32_w]
         rfl
        exact norm_ (by simp only [putAll, Act.put, List.setIfInBounds_toArray, List.set_cons_zero, List.set_cons_succ]) (hCont (v197, v200, .slice Ao82 y202.length co82, gb205) _ ⟨hHeld, (by exact Kd.xQ HO189.out), (by exact Kd.xR HO192.out), (by exact Kd.xR HO204.out), (by exact bk BK193.out), (by exact bk BK205.out), GW205.out, GE205.out, NB193_205.out, NB205_193.out, (by exact bw HB.out)⟩)
      rintro ⟨v197, v200, v203, gb205⟩ w83 ⟨hS_, h0_, h1_, h2_, h3_, h4_, h5_, h6_, h7_, h8_, h9_⟩
      have n0_ : Aside0 (Kd.Q k83 83 w83 w.heap.size (fun k_ => some k_ ≠ (.slice Ao11 t190.length co11 : Value).ownBlock ∧ some k_ ≠ (v203 : Value).ownBlock) (.slice Ao9 t187.length co9) t187) := ⟨h0_⟩
      have n1_ : Aside0 (Kd.R k83 83 w83 w.heap.size (fun k_ => some k_ ≠ (.slice Ao9 t187.length co9 : Value).ownBlock ∧ some k_ ≠ (v203 : Value).ownBlock) (.slice Ao11 t190.length co11) t190) := ⟨h1_⟩
      have n2_ : Aside0 (Kd.R k83 83 w83 w.heap.size (fun k_ => some k_ ≠ (.slice Ao9 t187.length co9 : Value).ownBlock ∧ some k_ ≠ (.slice Ao11 t190.length co11 : Value).ownBlock) v203 y202) := ⟨h2_⟩
      have n3_ : Aside0 (w83.heap[gb193]? = some (.cells #[.slice Ao9 t187.length co9, .slice Ao11 t190.length co11] 25 (0, 0))) := ⟨h3_⟩
      have n4_ : Aside0 (w83.heap[gb205]? = some (.cells #[.slice none 0 0, .slice none 0 0] 25 (0, 0))) := ⟨h4_⟩
      have n5_ : Aside0 (w.heap.size ≤ gb205) := ⟨h5_⟩
      have n6_ : Aside0 (w.heap.size ≤ gb205) := ⟨h6_⟩
      have n7_ : Aside0 (gb193 ≠ gb205) := ⟨h7_⟩
      have n8_ : Aside0 (gb205 ≠ gb193) := ⟨h8_⟩
      have n9_ : Aside0 (Below w.heap.size w w83) := ⟨h9_⟩
      clear HO189
      clear HO192
      clear BK193
      clear HB
      clear h0_ h1_ h2_ h3_ h4_ h5_ h6_ h7_ h8_ h9_
      have HO189 := n0_
      have HO192 := n1_
      have HO204 := n2_
      have BK193 := n3_
      have BK205 := n4_
      have GW205 := n5_
      have GE205 := n6_
      have NB193_205 := n7_
      have NB205_193 := n8_
      have HB := n9_
      clear n0_ n1_ n2_ n3_ n4_ n5_ n6_ n7_ n8_ n9_
      have hHeld : w83.cell? ⟨gb193, 0, none⟩ = some (.slice Ao9 t187.length co9) ∧ w83.cell? ⟨gb193, 1, none⟩ = some (.slice Ao11 t190.length co11) := hS_
      obtain ⟨Ao84, co84, eo84⟩ := Kd.R_slice HO204.out
      (first | subst eo84 | (injection eo84 with f1_ f2_ f3_; have f4_ := f1_.symm; have f5_ := f3_.symm; clear f1_ f2_ f3_; subst f4_; subst f5_))
      refine norm_ (a' := ?_) ?_ ?_
      rotate_left
      ·
       simp only [putAll, Act.put, List.setIfInBounds_toArray, List.set_cons_zero, List.set_cons_succ]
       rfl
      refine one_ (i := 11) (N := none) laws_FnSchemaValid.m16 rfl rfl (one_of HT_.out (by kernel_rfl)) (by decide) (fun K hK => ?_)
      have hs85 : w83.cell? ⟨gb205, 0, none⟩ = some (.slice none 0 0) := (blk_cell BK205.out 0).trans rfl
      have hfs85 := blk_frozen BK205.out 0
      have hns85_0 := NB193_205.out
      have hms85_0 := NB205_193.out
      have hs86 : w83.cell? ⟨gb205, 1, none⟩ = some (.slice none 0 0) := (blk_cell BK205.out 1).trans rfl
      have hfs86 := blk_frozen BK205.out 1
      have hns86_0 := NB193_205.out
      have hms86_0 := NB205_193.out
      refine skip_ (w1 := ?_) (by rfl) rfl ?_ ?_
      rotate_left
      ·
       go_simp
       rfl
      refine hK.out _ _ ⟨((cell_far (p := ⟨gb205, _, none⟩) NB193_205.out _).trans (((cell_far (p := ⟨gb205, _, none⟩) NB193_205.out _).trans (hHeld.1)))), ((cell_far (p := ⟨gb205, _, none⟩) NB193_205.out _).trans (((cell_far (p := ⟨gb205, _, none⟩) NB193_205.out _).trans (hHeld.2))))⟩ (fun hHeld => ?_)
      clear hK K
      refine done_ (done_of HT_.out (by kernel_rfl)) ?_
      have n0_ : Aside0 (Kd.Q k83 83 ((w83.setCell ⟨gb205, 0, none⟩ (.slice Ao9 t187.length co9)).setCell ⟨gb205, 1, none⟩ (.slice Ao84 y202.length co84)) w.heap.size (fun k_ => some k_ ≠ (.slice Ao11 t190.length co11 : Value).ownBlock ∧ some k_ ≠ (.slice Ao84 y202.length co84 : Value).ownBlock) (.slice Ao9 t187.length co9) t187) := ⟨by (with_reducible repeat (first | apply Kd.Q_alloc | apply Kd.Q_drewN | apply Kd.Q_drew)); exact Kd.Q_mono (Kd.Q_far (p := ⟨gb205, 1, none⟩) (Kd.Q_far (p := ⟨gb205, 0, none⟩) (Kd.Q_types HO189.out BK205.out (by decide)) (fun _ hk => hk.2) (.slice Ao9 t187.length co9)) (fun _ hk => hk.2) (.slice Ao84 y202.length co84)) (fun _ hk => okp hk)⟩
      have n1_ : Aside0 (Kd.R k83 83 ((w83.setCell ⟨gb205, 0, none⟩ (.slice Ao9 t187.length co9)).setCell ⟨gb205, 1, none⟩ (.slice Ao84 y202.length co84)) w.heap.size (fun k_ => some k_ ≠ (.slice Ao9 t187.length co9 : Value).ownBlock ∧ some k_ ≠ (.slice Ao84 y202.length co84 : Value).ownBlock) (.slice Ao11 t190.length co11) t190) := ⟨by (with_reducible repeat (first | apply Kd.R_alloc | apply Kd.R_drewN | apply Kd.R_drew)); exact Kd.R_mono (Kd.R_far (p := ⟨gb205, 1, none⟩) (Kd.R_far (p := ⟨gb205, 0, none⟩) (Kd.R_types HO192.out BK205.out (by decide)) (fun _ hk => hk.2) (.slice Ao9 t187.length co9)) (fun _ hk => hk.2) (.slice Ao84 y202.length co84)) (fun _ hk => okp hk)⟩
      have n2_ : Aside0 (Kd.R k83 83 ((w83.setCell ⟨gb205, 0, none⟩ (.slice Ao9 t187.length co9)).setCell ⟨gb205, 1, none⟩ (.slice Ao84 y202.length co84)) w.heap.size (fun k_ => some k_ ≠ (.slice Ao9 t187.length co9 : Value).ownBlock ∧ some k_ ≠ (.slice Ao11 t190.length co11 : Value).ownBlock) (.slice Ao84 y202.length co84) y202) := ⟨by (with_reducible repeat (first | apply Kd.R_alloc | apply Kd.R_drewN | apply Kd.R_drew)); exact Kd.R_mono (Kd.R_far (p := ⟨gb205, 1, none⟩) (Kd.R_far (p := ⟨gb205, 0, none⟩) (Kd.R_types HO204.out BK205.out (by decide)) (fun _ hk => hk.2) (.slice Ao9 t187.length co9)) (fun _ hk => hk.2) (.slice Ao84 y202.length co84)) (fun _ hk => okp hk)⟩
      have n3_ : Aside0 (((w83.setCell ⟨gb205, 0, none⟩ (.slice Ao9 t187.length co9)).setCell ⟨gb205, 1, none⟩ (.slice Ao84 y202.length co84)).heap[gb193]? = some (.cells #[.slice Ao9 t187.length co9, .slice Ao11 t190.length co11] 25 (0, 0))) := ⟨by (with_reducible repeat (first | refine blk_drewN ?_ _ | refine blk_drew ?_ | refine blk_alloc ?_ _)); refine blk_far ?_ NB193_205.out _; (with_reducible repeat (first | refine blk_drewN ?_ _ | refine blk_drew ?_ | refine blk_alloc ?_ _)); refine blk_far ?_ NB193_205.out _; exact bk BK193.out⟩
      have n4_ : Aside0 (((w83.setCell ⟨gb205, 0, none⟩ (.slice Ao9 t187.length co9)).setCell ⟨gb205, 1, none⟩ (.slice Ao84 y202.length co84)).heap[gb205]? = some (.cells #[.slice Ao9 t187.length co9, .slice Ao84 y202.length co84] 25 (0, 0))) := ⟨by (with_reducible repeat (first | refine blk_drewN ?_ _ | refine blk_drew ?_ | refine blk_alloc ?_ _)); refine blk_put (cs := #[.slice Ao9 t187.length co9, .slice none 0 0]) ?_ 1 _ rfl; (with_reducible repeat (first | refine blk_drewN ?_ _ | refine blk_drew ?_ | refine blk_alloc ?_ _)); refine blk_put (cs := #[.slice none 0 0, .slice none 0 0]) ?_ 0 _ rfl; exact bk BK205.out⟩
      have n5_ : Aside0 (Below w.heap.size w ((w83.setCell ⟨gb205, 0, none⟩ (.slice Ao9 t187.length co9)).setCell ⟨gb205, 1, none⟩ (.slice Ao84 y202.length co84))) := ⟨by exact bw HB.out⟩
      (try clear HO189)
      (try clear HO192)
      (try clear HO204)
      (try clear BK193)
      (try clear BK205)
      (try clear HB)
      generalize ((w83.setCell ⟨gb205, 0, none⟩ (.slice Ao9 t187.length co9)).setCell ⟨gb205, 1, none⟩ (.slice Ao84 y202.length co84)) = w87 at n0_ n1_ n2_ n3_ n4_ n5_ ⊢
      have HO189 := n0_
      have HO192 := n1_
      have HO204 := n2_
      have BK193 := n3_
      have BK205 := n4_
      have HB := n5_
      clear n0_ n1_ n2_ n3_ n4_ n5_
      try go_wp2_with (first | ((with_reducible refine gate_callee (f := 12) rfl ?_); refine gl (some 28) Try.func12 #[.agg #[.slice none 0 0, .slice none 0 0]] ?_; (refine (impl_SchemaValid.calls k (fun k_ => False) _ _ ([] : List (S83)) (fun k_ => False) _ _ ([] : List (S83)) false _ ?side1 ?side2 A20.out).mono ?_); (case side1 => exact Kd.V_nil _ _ _ _ _); (case side2 => exact Kd.V_nil _ _ _ _ _); rintro e w88 ⟨rfl, hb⟩; refine ⟨_, rfl, ?_⟩; have n0_ := Aside0.mk (Kd.Q_below (by exact Kd.xQ HO189.out) hb); have n1_ := Aside0.mk (Kd.R_below (by exact Kd.xR HO192.out) hb); have n2_ := Aside0.mk (Kd.R_below (by exact Kd.xR HO204.out) hb); have n3_ := Aside0.mk (blk_below (g := gb193) (o := .cells #[.slice Ao9 t187.length co9, .slice Ao11 t190.length co11] 25 (0, 0)) (by exact bk BK193.out) hb); have n4_ := Aside0.mk (blk_below (g := gb205) (o := .cells #[.slice Ao9 t187.length co9, .slice Ao84 y202.length co84] 25 (0, 0)) (by exact bk BK205.out) hb); have n5_ := Aside0.mk (below_step (by exact bw HB.out) hb); clear HO189; clear HO192; clear HO204; clear BK193; clear BK205; clear HB; have HO189 := n0_; have HO192 := n1_; have HO204 := n2_; have BK193 := n3_; have BK205 := n4_; have HB := n5_; clear n0_ n1_ n2_ n3_ n4_ n5_; (try clear hb); (try clear hb2); (try clear hk); (try clear hi)))
      go_ret
      exact ⟨by first | rfl | (simp [errW_none, errW_some] <;> rfl) | (simp [*, errW_none, errW_some] <;> rfl), by exact bw HB.out⟩
    ·
     rw [if_neg c19] at H
     exact absurd H (by simp)
   ·
    rw [if_neg c18] at H
    exact absurd H (by simp)

/-- THE ONE PURE STATEMENT of laws_FnSchemaValid: yours. -/
def laws_FnSchemaValid.Pure : Prop := ∀ (l0 : List Int), l0.length ≤ maxLen → l0.length * 1 ≤ 140737488351232 → (∀ x ∈ l0, (Lit.int .u8 x).wf = true) → ∃ k, laws_FnSchemaValid.f k l0 = some true
theorem laws_FnSchemaValid.walk (P : laws_FnSchemaValid.Pure) (a0 : Option Addr) (len0 cap0 : Nat) (z0 : List Int) (w : World) (w0 : (a0 = none ∧ len0 = 0 ∧ cap0 = 0 ∧ z0 = []) ∨ ∃ x, a0 = some x ∧ len0 ≤ cap0 ∧ cap0 ≤ maxLen ∧ z0.length = cap0 ∧ (∀ i, i < z0.length → w.cell? (x.add i) = some (.int .u8 (z0.getD i 0))) ∧ ∀ n ∈ z0, (Lit.int .u8 n).wf = true) (y0 : len0 * 1 ≤ 140737488351232) :
  Calls Try.prog 3 #[.slice a0 len0 cap0] w fun e w' => e = .returned (.bool true) ∧ Below w.heap.size w w' := by
 obtain ⟨l0, rfl, hr0, hm0, hw0, hc0⟩ := ReadsInt.ofRowC w0
 obtain ⟨k, h⟩ := P l0 hm0 y0 hw0
 refine (laws_FnSchemaValid.calls k _ _ l0 true w (Kd.C_of_reads (d := (0 : Int)) (h1 := fun _ => rfl) hr0) hc0 h).mono ?_
 rintro e w' ⟨rfl, hd⟩
 exact ⟨rfl, hd⟩

end Go.Proofs.Ytejfaenmgdkaoaa.P
