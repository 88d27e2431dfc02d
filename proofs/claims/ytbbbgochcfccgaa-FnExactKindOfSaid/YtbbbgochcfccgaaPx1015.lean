-- Written by a program of this session (wip/tool).
import Derived.Test.YtbbbgochcfccgaaPx0
import Derived.Test.YtbbbgochcfccgaaPx1032
import Derived.Test.YtbbbgochcfccgaaPx1040
import Derived.Test.YtbbbgochcfccgaaPx1041
namespace Go.Proofs.Ytbbbgochcfccgaa.P
open Go.RowKit Go.Proofs.YtbbbgochcfccgaaW.PrintWords Go.Proofs.YtbbbgochcfccgaaW.PrintLast Go.Proofs.YtbbbgochcfccgaaW.PrintMore
attribute [local go_sem] max2_int min2_int max_two min_two max_three min_three max_four min_four   -- for this text's walks alone
set_option linter.unusedVariables false
set_option linter.unusedSimpArgs false

/-! ### impl_KindOf: function 15 -/
def impl_KindOf.f (k : Nat) (l0_0 : List (S91)) (l0_1 : List (S91)) (a1_0 : Int) (a1_1 : Int) (a1_2 : ByteArray) (l1_3 : List (S29)) : Option (Int) := (impl_SchemaValid.f k l0_0 l0_1).bind fun t304 => (if t304 = true then ((impl_ExprValid.f k a1_0 a1_1 a1_2 l1_3).bind fun t305 => (if t305 = true then ((impl_Schema_kind.f k l0_0 l0_1 a1_0 a1_1 a1_2 l1_3).bind fun t306 => (some t306)) else (some 0))) else (some 0))
theorem impl_KindOf.mono : ∀ a0 a1 a2 a3 a4 a5 k, LeO (impl_KindOf.f k a0 a1 a2 a3 a4 a5) (impl_KindOf.f (k + 1) a0 a1 a2 a3 a4 a5) := by
 intro a0 a1 a2 a3 a4 a5 k
 unfold impl_KindOf.f
 repeat' first
   | (with_reducible exact impl_ExprValid.mono _ _ _ _ _)
   | (with_reducible exact impl_SchemaValid.mono _ _ _)
   | (with_reducible exact impl_Schema_kind.mono _ _ _ _ _ _ _)
   | (with_reducible exact LeO.refl _)
   | (with_reducible exact LeO.none _)
   | (with_reducible refine LeO.ite ?_ ?_)
   | (with_reducible refine LeO.bind ?_ (fun _ => ?_))
   | exact impl_ExprValid.mono _ _ _ _ _
   | exact impl_SchemaValid.mono _ _ _
   | exact impl_Schema_kind.mono _ _ _ _ _ _ _
   | exact LeO.none _
   | refine LeO.ite ?_ ?_
   | refine LeO.bind ?_ (fun _ => ?_)
set_option maxHeartbeats 8000000 in
set_option maxRecDepth 100000 in
theorem impl_KindOf.calls (k : Nat) (A0_0 : Option Addr) (c0_0 : Nat) (l0_0 : List (S91)) (A0_1 : Option Addr) (c0_1 : Nat) (l0_1 : List (S91)) (a1_0 : Int) (a1_1 : Int) (a1_2 : ByteArray) (A1_3 : Option Addr) (c1_3 : Nat) (l1_3 : List (S29)) (r : Int) (w : World) (hr0_0 : Kd.C k91 w A0_0 l0_0.length l0_0) (hc0_0 : l0_0.length ≤ c0_0) (hr0_1 : Kd.C k91 w A0_1 l0_1.length l0_1) (hc0_1 : l0_1.length ≤ c0_1) (hr1_3 : Kd.C k29 w A1_3 l1_3.length l1_3) (hc1_3 : l1_3.length ≤ c1_3) (h : impl_KindOf.f k l0_0 l0_1 a1_0 a1_1 a1_2 l1_3 = some r) :
  Calls Try.prog 15 #[.agg #[.slice A0_0 l0_0.length c0_0, .slice A0_1 l0_1.length c0_1], .agg #[.int .i64 a1_0, .int .i64 a1_1, .string a1_2, .slice A1_3 l1_3.length c1_3]] w fun e w' => e = .returned (.int .i64 r) ∧ Below w.heap.size w w' := by
 have hu40 := Try.underlying40
 have hu29 := Try.underlying29
 have HR0_0 := Aside0.mk hr0_0
 have HC0_0 := Aside0.mk hc0_0
 clear hr0_0 hc0_0
 have HR0_1 := Aside0.mk hr0_1
 have HC0_1 := Aside0.mk hc0_1
 clear hr0_1 hc0_1
 have HR1_3 := Aside0.mk hr1_3
 have HC1_3 := Aside0.mk hc1_3
 clear hr1_3 hc1_3
 have HB := Aside0.mk (Below.refl w.heap.size w)
 have H : ((impl_SchemaValid.f k l0_0 l0_1).bind fun t304 => (if t304 = true then ((impl_ExprValid.f k a1_0 a1_1 a1_2 l1_3).bind fun t305 => (if t305 = true then ((impl_Schema_kind.f k l0_0 l0_1 a1_0 a1_1 a1_2 l1_3).bind fun t306 => (some t306)) else (some 0))) else (some 0))) = some r := h
 clear h
 replace H := Option.bind_eq_some_iff.mp H
 obtain ⟨t304, A30, H⟩ := H
 replace H : (if t304 = true then ((impl_ExprValid.f k a1_0 a1_1 a1_2 l1_3).bind fun t305 => (if t305 = true then ((impl_Schema_kind.f k l0_0 l0_1 a1_0 a1_1 a1_2 l1_3).bind fun t306 => (some t306)) else (some 0))) else (some 0)) = some r := H
 have A3 := Aside0.mk A30
 clear A30
 by_cases c4 : t304 = true
 ·
  subst c4
  have H1 : ((impl_ExprValid.f k a1_0 a1_1 a1_2 l1_3).bind fun t305 => (if t305 = true then ((impl_Schema_kind.f k l0_0 l0_1 a1_0 a1_1 a1_2 l1_3).bind fun t306 => (some t306)) else (some 0))) = some r := by rw [if_pos rfl] at H; exact H
  clear H
  have H := H1
  clear H1
  replace H := Option.bind_eq_some_iff.mp H
  obtain ⟨t305, A50, H⟩ := H
  replace H : (if t305 = true then ((impl_Schema_kind.f k l0_0 l0_1 a1_0 a1_1 a1_2 l1_3).bind fun t306 => (some t306)) else (some 0)) = some r := H
  have A5 := Aside0.mk A50
  clear A50
  by_cases c6 : t305 = true
  ·
   subst c6
   have H1 : ((impl_Schema_kind.f k l0_0 l0_1 a1_0 a1_1 a1_2 l1_3).bind fun t306 => (some t306)) = some r := by rw [if_pos rfl] at H; exact H
   clear H
   have H := H1
   clear H1
   replace H := Option.bind_eq_some_iff.mp H
   obtain ⟨t306, A70, H⟩ := H
   replace H : (some t306) = some r := H
   have A7 := Aside0.mk A70
   clear A70
   obtain rfl := Option.some.inj H
   go_enter Try.func15, Try.ntmps15
   go_wp2_with (first | ((with_reducible refine gate_dst (N := 2) rfl ?_); refine bx 2 #[.slice A0_0 l0_0.length c0_0, .slice A0_1 l0_1.length c0_1] 40 ?_; intro gb302 hg w8 hbox hb; have BK302 := Aside0.mk (hbox); have GW302 := gwB HB hg; have GE302 := gwB HB hg; replace HB := bS HB hb; clear hb hbox hg) | ((with_reducible refine gate_dst (N := 3) rfl ?_); refine bx 3 #[.int .i64 a1_0, .int .i64 a1_1, .string a1_2, .slice A1_3 l1_3.length c1_3] 29 ?_; intro gb303 hg w9 hbox hb; have BK303 := Aside0.mk (hbox); have GW303 := gwB HB hg; have GE303 := gwB HB hg; replace HB := bS HB hb; have NB302_303 := nbL BK302 hg; have NB303_302 := nbR BK302 hg; replace BK302 := bB BK302 hb; clear hb hbox hg; have hnb10 := NB302_303.out; have hnc10 := NB303_302.out; obtain ⟨hcz11_0, hcz11_1⟩ := cs2 BK302.out; obtain ⟨hfz11_0, hfz11_1⟩ := fz2 BK302.out) | ((with_reducible refine gate_callee (f := 40) rfl ?_); refine gl (some 6) Try.func40 #[.agg #[.slice A0_0 l0_0.length c0_0, .slice A0_1 l0_1.length c0_1]] ?_; (with_reducible refine (impl_SchemaValid.calls k (fun k_ => k_ < w.heap.size) _ _ l0_0 (fun k_ => k_ < w.heap.size) _ _ l0_1 true _ ?side1 ?side2 A3.out).mono ?_); (case side1 => exact Kd.V_mk HC0_0.out (Kd.F_below (Kd.C_F k91_heap HR0_0.out) (by exact bw HB.out))); (case side2 => exact Kd.V_mk HC0_1.out (Kd.F_below (Kd.C_F k91_heap HR0_1.out) (by exact bw HB.out))); rintro e w12 ⟨rfl, hb⟩; refine ⟨_, rfl, ?_⟩; replace BK302 := bB BK302 hb; replace BK303 := bB BK303 hb; replace HB := bS HB hb; (try clear hb); (try clear hb2); (try clear hk); (try clear hi); obtain ⟨hcz13_0, hcz13_1, hcz13_2, hcz13_3⟩ := cs4 BK303.out; obtain ⟨hfz13_0, hfz13_1, hfz13_2, hfz13_3⟩ := fz4 BK303.out) | (go_at_call 32; (with_reducible refine (impl_ExprValid.calls k a1_0 a1_1 a1_2 _ _ l1_3 true _ ?side1 ?side2 A5.out).mono ?_); (case side1 => repeat (first | exact (Kd.C_below HR1_3.out HB.out) | (with_reducible refine Kd.C_alloc ?_ _) | (with_reducible refine Kd.C_drewN ?_ _) | (with_reducible refine Kd.C_drew ?_))); (case side2 => exact HC1_3.out); rintro e w14 ⟨rfl, hb⟩; have n0_ := bB BK302 hb; have n1_ := bB BK303 hb; have n2_ := bS HB hb; clear BK302; clear BK303; clear HB; have BK302 := n0_; have BK303 := n1_; have HB := n2_; clear n0_ n1_ n2_; (try clear hb); (try clear hb2); (try clear hk); (try clear hi); obtain ⟨hcz15_0, hcz15_1⟩ := cs2 BK302.out; obtain ⟨hfz15_0, hfz15_1⟩ := fz2 BK302.out; obtain ⟨hcz16_0, hcz16_1, hcz16_2, hcz16_3⟩ := cs4 BK303.out; obtain ⟨hfz16_0, hfz16_1, hfz16_2, hfz16_3⟩ := fz4 BK303.out) | ((with_reducible refine gate_callee (f := 41) rfl ?_); refine gl (some 15) Try.func41 #[.agg #[.slice A0_0 l0_0.length c0_0, .slice A0_1 l0_1.length c0_1], .agg #[.int .i64 a1_0, .int .i64 a1_1, .string a1_2, .slice A1_3 l1_3.length c1_3]] ?_; (with_reducible refine (impl_Schema_kind.calls k _ _ l0_0 _ _ l0_1 a1_0 a1_1 a1_2 _ _ l1_3 t306 _ ?side1 ?side2 ?side3 ?side4 ?side5 ?side6 A7.out).mono ?_); (case side1 => repeat (first | exact (Kd.C_below HR0_0.out HB.out) | (with_reducible refine Kd.C_alloc ?_ _) | (with_reducible refine Kd.C_drewN ?_ _) | (with_reducible refine Kd.C_drew ?_))); (case side2 => exact HC0_0.out); (case side3 => repeat (first | exact (Kd.C_below HR0_1.out HB.out) | (with_reducible refine Kd.C_alloc ?_ _) | (with_reducible refine Kd.C_drewN ?_ _) | (with_reducible refine Kd.C_drew ?_))); (case side4 => exact HC0_1.out); (case side5 => repeat (first | exact (Kd.C_below HR1_3.out HB.out) | (with_reducible refine Kd.C_alloc ?_ _) | (with_reducible refine Kd.C_drewN ?_ _) | (with_reducible refine Kd.C_drew ?_))); (case side6 => exact HC1_3.out); rintro e w17 ⟨rfl, hb⟩; refine ⟨_, rfl, ?_⟩; replace BK302 := bB BK302 hb; replace BK303 := bB BK303 hb; replace HB := bS HB hb; (try clear hb); (try clear hb2); (try clear hk); (try clear hi)))
   go_ret
   exact ⟨by first | rfl | (simp [errW_none, errW_some] <;> rfl) | (simp [*, errW_none, errW_some] <;> rfl), by exact bw HB.out⟩
  ·
   replace c6 := Bool.eq_false_iff.mpr c6
   subst c6
   have H1 : (some 0) = some r := by rw [if_neg (show ¬ (false = true) by decide)] at H; exact H
   clear H
   have H := H1
   clear H1
   obtain rfl := Option.some.inj H
   go_enter Try.func15, Try.ntmps15
   go_wp2_with (first | ((with_reducible refine gate_dst (N := 2) rfl ?_); refine bx 2 #[.slice A0_0 l0_0.length c0_0, .slice A0_1 l0_1.length c0_1] 40 ?_; intro gb302 hg w18 hbox hb; have BK302 := Aside0.mk (hbox); have GW302 := gwB HB hg; have GE302 := gwB HB hg; replace HB := bS HB hb; clear hb hbox hg) | ((with_reducible refine gate_dst (N := 3) rfl ?_); refine bx 3 #[.int .i64 a1_0, .int .i64 a1_1, .string a1_2, .slice A1_3 l1_3.length c1_3] 29 ?_; intro gb303 hg w19 hbox hb; have BK303 := Aside0.mk (hbox); have GW303 := gwB HB hg; have GE303 := gwB HB hg; replace HB := bS HB hb; have NB302_303 := nbL BK302 hg; have NB303_302 := nbR BK302 hg; replace BK302 := bB BK302 hb; clear hb hbox hg; have hnb20 := NB302_303.out; have hnc20 := NB303_302.out; obtain ⟨hcz21_0, hcz21_1⟩ := cs2 BK302.out; obtain ⟨hfz21_0, hfz21_1⟩ := fz2 BK302.out) | ((with_reducible refine gate_callee (f := 40) rfl ?_); refine gl (some 6) Try.func40 #[.agg #[.slice A0_0 l0_0.length c0_0, .slice A0_1 l0_1.length c0_1]] ?_; (with_reducible refine (impl_SchemaValid.calls k (fun k_ => k_ < w.heap.size) _ _ l0_0 (fun k_ => k_ < w.heap.size) _ _ l0_1 true _ ?side1 ?side2 A3.out).mono ?_); (case side1 => exact Kd.V_mk HC0_0.out (Kd.F_below (Kd.C_F k91_heap HR0_0.out) (by exact bw HB.out))); (case side2 => exact Kd.V_mk HC0_1.out (Kd.F_below (Kd.C_F k91_heap HR0_1.out) (by exact bw HB.out))); rintro e w22 ⟨rfl, hb⟩; refine ⟨_, rfl, ?_⟩; replace BK302 := bB BK302 hb; replace BK303 := bB BK303 hb; replace HB := bS HB hb; (try clear hb); (try clear hb2); (try clear hk); (try clear hi); obtain ⟨hcz23_0, hcz23_1, hcz23_2, hcz23_3⟩ := cs4 BK303.out; obtain ⟨hfz23_0, hfz23_1, hfz23_2, hfz23_3⟩ := fz4 BK303.out) | (go_at_call 32; (with_reducible refine (impl_ExprValid.calls k a1_0 a1_1 a1_2 _ _ l1_3 false _ ?side1 ?side2 A5.out).mono ?_); (case side1 => repeat (first | exact (Kd.C_below HR1_3.out HB.out) | (with_reducible refine Kd.C_alloc ?_ _) | (with_reducible refine Kd.C_drewN ?_ _) | (with_reducible refine Kd.C_drew ?_))); (case side2 => exact HC1_3.out); rintro e w24 ⟨rfl, hb⟩; have n0_ := bB BK302 hb; have n1_ := bB BK303 hb; have n2_ := bS HB hb; clear BK302; clear BK303; clear HB; have BK302 := n0_; have BK303 := n1_; have HB := n2_; clear n0_ n1_ n2_; (try clear hb); (try clear hb2); (try clear hk); (try clear hi)))
   go_ret
   exact ⟨by first | rfl | (simp [errW_none, errW_some] <;> rfl) | (simp [*, errW_none, errW_some] <;> rfl), by exact bw HB.out⟩
 ·
  replace c4 := Bool.eq_false_iff.mpr c4
  subst c4
  have H1 : (some 0) = some r := by rw [if_neg (show ¬ (false = true) by decide)] at H; exact H
  clear H
  have H := H1
  clear H1
  obtain rfl := Option.some.inj H
  go_enter Try.func15, Try.ntmps15
  go_wp2_with (first | ((with_reducible refine gate_dst (N := 2) rfl ?_); refine bx 2 #[.slice A0_0 l0_0.length c0_0, .slice A0_1 l0_1.length c0_1] 40 ?_; intro gb302 hg w25 hbox hb; have BK302 := Aside0.mk (hbox); have GW302 := gwB HB hg; have GE302 := gwB HB hg; replace HB := bS HB hb; clear hb hbox hg) | ((with_reducible refine gate_dst (N := 3) rfl ?_); refine bx 3 #[.int .i64 a1_0, .int .i64 a1_1, .string a1_2, .slice A1_3 l1_3.length c1_3] 29 ?_; intro gb303 hg w26 hbox hb; have BK303 := Aside0.mk (hbox); have GW303 := gwB HB hg; have GE303 := gwB HB hg; replace HB := bS HB hb; have NB302_303 := nbL BK302 hg; have NB303_302 := nbR BK302 hg; replace BK302 := bB BK302 hb; clear hb hbox hg; have hnb27 := NB302_303.out; have hnc27 := NB303_302.out; obtain ⟨hcz28_0, hcz28_1⟩ := cs2 BK302.out; obtain ⟨hfz28_0, hfz28_1⟩ := fz2 BK302.out) | ((with_reducible refine gate_callee (f := 40) rfl ?_); refine gl (some 6) Try.func40 #[.agg #[.slice A0_0 l0_0.length c0_0, .slice A0_1 l0_1.length c0_1]] ?_; (with_reducible refine (impl_SchemaValid.calls k (fun k_ => k_ < w.heap.size) _ _ l0_0 (fun k_ => k_ < w.heap.size) _ _ l0_1 false _ ?side1 ?side2 A3.out).mono ?_); (case side1 => exact Kd.V_mk HC0_0.out (Kd.F_below (Kd.C_F k91_heap HR0_0.out) (by exact bw HB.out))); (case side2 => exact Kd.V_mk HC0_1.out (Kd.F_below (Kd.C_F k91_heap HR0_1.out) (by exact bw HB.out))); rintro e w29 ⟨rfl, hb⟩; refine ⟨_, rfl, ?_⟩; replace BK302 := bB BK302 hb; replace BK303 := bB BK303 hb; replace HB := bS HB hb; (try clear hb); (try clear hb2); (try clear hk); (try clear hi)))
  go_ret
  exact ⟨by first | rfl | (simp [errW_none, errW_some] <;> rfl) | (simp [*, errW_none, errW_some] <;> rfl), by exact bw HB.out⟩

/-! ### laws_eqKinded: function 71 -/
def laws_eqKinded.f (a0_0 : ByteArray) (a0_1 : Int) (a1_0 : ByteArray) (a1_1 : Int) : Option (Bool) := if a0_0.toList = a1_0.toList then (if a0_1 = a1_1 then (some true) else (some false)) else (some false)
set_option maxHeartbeats 8000000 in
set_option maxRecDepth 100000 in
theorem laws_eqKinded.calls (a0_0 : ByteArray) (a0_1 : Int) (a1_0 : ByteArray) (a1_1 : Int) (r : Bool) (w : World) (h : laws_eqKinded.f a0_0 a0_1 a1_0 a1_1 = some r) :
  Calls Try.prog 71 #[.agg #[.string a0_0, .int .i64 a0_1], .agg #[.string a1_0, .int .i64 a1_1]] w fun e w' => e = .returned (.bool r) ∧ Below w.heap.size w w' := by
 have hu91 := Try.underlying91
 have HB := Aside0.mk (Below.refl w.heap.size w)
 have H : (if a0_0.toList = a1_0.toList then (if a0_1 = a1_1 then (some true) else (some false)) else (some false)) = some r := h
 clear h
 by_cases c3 : a0_0.toList = a1_0.toList
 ·
  rw [if_pos c3] at H; obtain ⟨c3b0, c3b1⟩ := eqY c3; clear c3
  by_cases c4 : a0_1 = a1_1
  ·
   rw [if_pos c4] at H; obtain ⟨c4b0, c4b1⟩ := eqY c4; clear c4
   obtain rfl := Option.some.inj H
   go_enter Try.func71, Try.ntmps71
   go_wp2_with (first | ((with_reducible refine gate_dst (N := 2) rfl ?_); refine bx 2 #[.string a0_0, .int .i64 a0_1] 91 ?_; intro gb307 hg w5 hbox hb; have BK307 := Aside0.mk (hbox); have GW307 := gwB HB hg; have GE307 := gwB HB hg; replace HB := bS HB hb; clear hb hbox hg) | ((with_reducible refine gate_dst (N := 3) rfl ?_); refine bx 3 #[.string a1_0, .int .i64 a1_1] 91 ?_; intro gb308 hg w6 hbox hb; have BK308 := Aside0.mk (hbox); have GW308 := gwB HB hg; have GE308 := gwB HB hg; replace HB := bS HB hb; have NB307_308 := nbL BK307 hg; have NB308_307 := nbR BK307 hg; replace BK307 := bB BK307 hb; clear hb hbox hg; have hnb7 := NB307_308.out; have hnc7 := NB308_307.out; obtain ⟨hcz8_0, hcz8_1⟩ := cs2 BK307.out; obtain ⟨hfz8_0, hfz8_1⟩ := fz2 BK307.out; obtain ⟨hcz9_0, hcz9_1⟩ := cs2 BK308.out; obtain ⟨hfz9_0, hfz9_1⟩ := fz2 BK308.out))
   go_ret
   exact ⟨by first | rfl | (simp [errW_none, errW_some] <;> rfl) | (simp [*, errW_none, errW_some] <;> rfl), by exact bw HB.out⟩
  ·
   rw [if_neg c4] at H; obtain ⟨c4b0, c4b1⟩ := eqN c4
   obtain rfl := Option.some.inj H
   go_enter Try.func71, Try.ntmps71
   go_wp2_with (first | ((with_reducible refine gate_dst (N := 2) rfl ?_); refine bx 2 #[.string a0_0, .int .i64 a0_1] 91 ?_; intro gb307 hg w10 hbox hb; have BK307 := Aside0.mk (hbox); have GW307 := gwB HB hg; have GE307 := gwB HB hg; replace HB := bS HB hb; clear hb hbox hg) | ((with_reducible refine gate_dst (N := 3) rfl ?_); refine bx 3 #[.string a1_0, .int .i64 a1_1] 91 ?_; intro gb308 hg w11 hbox hb; have BK308 := Aside0.mk (hbox); have GW308 := gwB HB hg; have GE308 := gwB HB hg; replace HB := bS HB hb; have NB307_308 := nbL BK307 hg; have NB308_307 := nbR BK307 hg; replace BK307 := bB BK307 hb; clear hb hbox hg; have hnb12 := NB307_308.out; have hnc12 := NB308_307.out; obtain ⟨hcz13_0, hcz13_1⟩ := cs2 BK307.out; obtain ⟨hfz13_0, hfz13_1⟩ := fz2 BK307.out; obtain ⟨hcz14_0, hcz14_1⟩ := cs2 BK308.out; obtain ⟨hfz14_0, hfz14_1⟩ := fz2 BK308.out))
   go_ret
   exact ⟨by first | rfl | (simp [errW_none, errW_some] <;> rfl) | (simp [*, errW_none, errW_some] <;> rfl), by exact bw HB.out⟩
 ·
  rw [if_neg c3] at H; obtain ⟨c3b0, c3b1⟩ := eqN c3
  obtain rfl := Option.some.inj H
  go_enter Try.func71, Try.ntmps71
  go_wp2_with (first | ((with_reducible refine gate_dst (N := 2) rfl ?_); refine bx 2 #[.string a0_0, .int .i64 a0_1] 91 ?_; intro gb307 hg w15 hbox hb; have BK307 := Aside0.mk (hbox); have GW307 := gwB HB hg; have GE307 := gwB HB hg; replace HB := bS HB hb; clear hb hbox hg) | ((with_reducible refine gate_dst (N := 3) rfl ?_); refine bx 3 #[.string a1_0, .int .i64 a1_1] 91 ?_; intro gb308 hg w16 hbox hb; have BK308 := Aside0.mk (hbox); have GW308 := gwB HB hg; have GE308 := gwB HB hg; replace HB := bS HB hb; have NB307_308 := nbL BK307 hg; have NB308_307 := nbR BK307 hg; replace BK307 := bB BK307 hb; clear hb hbox hg; have hnb17 := NB307_308.out; have hnc17 := NB308_307.out; obtain ⟨hcz18_0, hcz18_1⟩ := cs2 BK307.out; obtain ⟨hfz18_0, hfz18_1⟩ := fz2 BK307.out; obtain ⟨hcz19_0, hcz19_1⟩ := cs2 BK308.out; obtain ⟨hfz19_0, hfz19_1⟩ := fz2 BK308.out))
  go_ret
  exact ⟨by first | rfl | (simp [errW_none, errW_some] <;> rfl) | (simp [*, errW_none, errW_some] <;> rfl), by exact bw HB.out⟩

/-! ### laws_eqKindedS: function 42 -/
def laws_eqKindedS.l0 : Nat → List (S91) → List (S91) → Int → Option (Bool)
 | 0, _, _, _ => none
 | k + 1, x0, x1, x5 => if x5 < (x0.length : Int) then (if 0 ≤ x5 then (if x5 < (x1.length : Int) then ((laws_eqKinded.f ((rd_T91 x0 x5).f0) ((rd_T91 x0 x5).f1) ((rd_T91 x1 x5).f0) ((rd_T91 x1 x5).f1)).bind fun t311 => (if t311 = true then (laws_eqKindedS.l0 k x0 x1 (wrap64 (x5 + 1))) else (some false))) else (none)) else (none)) else (some true)
def laws_eqKindedS.f (k : Nat) (l0 : List (S91)) (l1 : List (S91)) : Option (Bool) := if (l0.length : Int) = (l1.length : Int) then (laws_eqKindedS.l0 k l0 l1 0) else (some false)
theorem laws_eqKindedS.mono_l : ∀ k, (∀ y0 y1 y2, LeO (laws_eqKindedS.l0 k y0 y1 y2) (laws_eqKindedS.l0 (k + 1) y0 y1 y2))
 | 0 => fun _ _ _ r h => by simp [laws_eqKindedS.l0] at h
 | k + 1 => by
  have ih0 := laws_eqKindedS.mono_l k
  ·
   intro y0 y1 y2
   unfold laws_eqKindedS.l0
   repeat' first
   | (with_reducible exact ih0 _ _ _)
   | (with_reducible exact LeO.refl _)
   | (with_reducible exact LeO.none _)
   | (with_reducible refine LeO.ite ?_ ?_)
   | (with_reducible refine LeO.bind ?_ (fun _ => ?_))
   | exact ih0 _ _ _
   | exact LeO.none _
   | refine LeO.ite ?_ ?_
   | refine LeO.bind ?_ (fun _ => ?_)
theorem laws_eqKindedS.mono : ∀ a0 a1 k, LeO (laws_eqKindedS.f k a0 a1) (laws_eqKindedS.f (k + 1) a0 a1) := by
 intro a0 a1 k
 have ih0 := laws_eqKindedS.mono_l k
 unfold laws_eqKindedS.f
 repeat' first
   | (with_reducible exact ih0 _ _ _)
   | (with_reducible exact LeO.refl _)
   | (with_reducible exact LeO.none _)
   | (with_reducible refine LeO.ite ?_ ?_)
   | (with_reducible refine LeO.bind ?_ (fun _ => ?_))
   | exact ih0 _ _ _
   | exact LeO.none _
   | refine LeO.ite ?_ ?_
   | refine LeO.bind ?_ (fun _ => ?_)
def laws_eqKindedS.T6 : Bool × List (List Nat × List Nat) := (true, [([], []), ([], []), ([0, 1], [0, 1]), ([2], [2]), ([], []), ([], []), ([4, 5], [4, 5]), ([6], [6]), ([3, 7], [3, 7]), ([8], [8])])
def laws_eqKindedS.B6 : List Nat := [0, 0, 3, 7, 0, 0, 48, 112, 255, 511]
theorem laws_eqKindedS.tab6 : rtab .any (opsOf Try.f42 6) = laws_eqKindedS.T6 := by kernel_rfl
theorem laws_eqKindedS.bits6 : waitsOk laws_eqKindedS.T6.2 laws_eqKindedS.B6 = true := by kernel_rfl
set_option maxHeartbeats 8000000 in
set_option maxRecDepth 100000 in
theorem laws_eqKindedS.calls (k : Nat) (A0 : Option Addr) (c0 : Nat) (l0 : List (S91)) (A1 : Option Addr) (c1 : Nat) (l1 : List (S91)) (r : Bool) (w : World) (hr0 : Kd.C k91 w A0 l0.length l0) (hc0 : l0.length ≤ c0) (hr1 : Kd.C k91 w A1 l1.length l1) (hc1 : l1.length ≤ c1) (h : laws_eqKindedS.f k l0 l1 = some r) :
  Calls Try.prog 42 #[.slice A0 l0.length c0, .slice A1 l1.length c1] w fun e w' => e = .returned (.bool r) ∧ Below w.heap.size w w' := by
 have hu91 := Try.underlying91
 have HR0 := Aside0.mk hr0
 have HC0 := Aside0.mk hc0
 clear hr0 hc0
 have HR1 := Aside0.mk hr1
 have HC1 := Aside0.mk hc1
 clear hr1 hc1
 have HB := Aside0.mk (Below.refl w.heap.size w)
 have H : (if (l0.length : Int) = (l1.length : Int) then (laws_eqKindedS.l0 k l0 l1 0) else (some false)) = some r := h
 clear h
 by_cases c3 : (l0.length : Int) = (l1.length : Int)
 ·
  rw [if_pos c3] at H; obtain ⟨c3b0, c3b1⟩ := eqY c3
  have c3b2 : (l0.length == l1.length) = true := by first | simpa using c3 | (simp at c3 ⊢; omega)
  clear c3
  have H' := Aside0.mk H
  clear H
  go_enter Try.func42, Try.ntmps42
  go_wp2
  go_loopg [5] k (fun kq v5 w' => ∃ (x5_1 : Int), v5 = .int .i64 x5_1 ∧ Aside0 (laws_eqKindedS.l0 kq l0 l1 x5_1 = some r) ∧ Aside0 (kq ≤ k) ∧ Aside0 (Below w.heap.size w w'))
  case atStart => exact ⟨(0), (by first | rfl | (simp; done) | (simp [*]; done)), H', ⟨Nat.le_refl _⟩, ⟨by exact bw HB.out⟩⟩
  case round =>
   clear H'
   try clear c1
   try clear p2
   try clear c3
   try clear c3b0
   try clear c3b1
   try clear c3b2
   obtain ⟨x5_1, rfl, HA, HK1, HB⟩ := hrel
   cases gk with
   | zero => exact absurd HA.out (by simp [laws_eqKindedS.l0])
   | succ k1 =>
    have H := HA.out
    clear HA
    simp only [laws_eqKindedS.l0] at H
    by_cases c4 : x5_1 < (l0.length : Int)
    ·
     rw [if_pos c4] at H; have c4b0 : decide (x5_1 < (l0.length : Int)) = true := decide_eq_true c4; clear c4
     by_cases c5 : 0 ≤ x5_1
     ·
      rw [if_pos c5] at H; have c5b0 : decide (0 ≤ x5_1) = true := decide_eq_true c5; clear c5
      by_cases c6 : x5_1 < (l1.length : Int)
      ·
       rw [if_pos c6] at H; have c6b0 : decide (x5_1 < (l1.length : Int)) = true := decide_eq_true c6; clear c6
       replace H := Option.bind_eq_some_iff.mp H
       obtain ⟨t311, A70, H⟩ := H
       replace H : (if t311 = true then (laws_eqKindedS.l0 k1 l0 l1 (wrap64 (x5_1 + 1))) else (some false)) = some r := H
       have A7 := Aside0.mk A70
       clear A70
       by_cases c8 : t311 = true
       ·
        subst c8
        have H1 : (laws_eqKindedS.l0 k1 l0 l1 (wrap64 (x5_1 + 1))) = some r := by rw [if_pos rfl] at H; exact H
        clear H
        have H := H1
        clear H1
        have H' := Aside0.mk H
        clear H
        try go_wp2
        replace HB := Aside0.mk (below_drew1 HB.out)
        have p309 : 0 ≤ (x5_1 : Int) := of_decide_eq_true (by first | (with_reducible assumption) | assumption)
        have q309 : x5_1 < (l0.length : Int) := of_decide_eq_true (by first | (with_reducible assumption) | assumption)
        obtain ⟨ad309, e309, hx309_0, hx309_1⟩ := at_T91 HR0.out x5_1 p309 q309
        have hw309_1 := hx309_1
        have hw309_0 := hx309_0
        cases e309
        first | replace hx309_0 := (HB.out.cell (World.block_lt_of_cell? w _ hx309_0)).trans hx309_0 | skip
        first | replace hx309_1 := (HB.out.cell (World.block_lt_of_cell? w _ hx309_1)).trans hx309_1 | skip
        replace p309 := eq_true p309
        replace q309 := eq_true q309
        have p310 : 0 ≤ (x5_1 : Int) := of_decide_eq_true (by first | (with_reducible assumption) | assumption)
        have q310 : x5_1 < (l1.length : Int) := of_decide_eq_true (by first | (with_reducible assumption) | assumption)
        obtain ⟨ad310, e310, hx310_0, hx310_1⟩ := at_T91 HR1.out x5_1 p310 q310
        have hw310_1 := hx310_1
        have hw310_0 := hx310_0
        cases e310
        first | replace hx310_0 := (HB.out.cell (World.block_lt_of_cell? w _ hx310_0)).trans hx310_0 | skip
        first | replace hx310_1 := (HB.out.cell (World.block_lt_of_cell? w _ hx310_1)).trans hx310_1 | skip
        replace p310 := eq_true p310
        replace q310 := eq_true q310
        refine start_ (n := 10) (S := fun w' => w'.cell? (ad309.add ((x5_1).toNat * 2)) = some (.string ((rd_T91 l0 x5_1).f0)) ∧ w'.cell? ⟨(ad309.add ((x5_1).toNat * 2)).block, (ad309.add ((x5_1).toNat * 2)).off + 1, none⟩ = some (.int .i64 ((rd_T91 l0 x5_1).f1)) ∧ w'.cell? (ad310.add ((x5_1).toNat * 2)) = some (.string ((rd_T91 l1 x5_1).f0)) ∧ w'.cell? ⟨(ad310.add ((x5_1).toNat * 2)).block, (ad310.add ((x5_1).toNat * 2)).off + 1, none⟩ = some (.int .i64 ((rd_T91 l1 x5_1).f1))) (ds := []) (mB 10 0) (by kernel_rfl) rfl rfl ⟨((HB.out.cell (World.block_lt_of_cell? w _ hw309_0)).trans hw309_0), ((HB.out.cell (World.block_lt_of_cell? w _ hw309_1)).trans hw309_1), ((HB.out.cell (World.block_lt_of_cell? w _ hw310_0)).trans hw310_0), ((HB.out.cell (World.block_lt_of_cell? w _ hw310_1)).trans hw310_1)⟩ (fun hHeld => ?_); refine with_tabW laws_eqKindedS.tab6 laws_eqKindedS.bits6 (fun HT_ HW_ => ?_)
        generalize wr.drew = w9 at HB hx309_0 hx309_1 hx310_0 hx310_1 hHeld ⊢
        refine pn 0 17 HT_.out ?_
        refine pn 1 18 HT_.out ?_
        refine pn 2 19 HT_.out ?_
        refine pn 4 21 HT_.out ?_
        refine pn 5 22 HT_.out ?_
        refine pn 6 23 HT_.out ?_
        refine tk 3 20 HT_.out HW_.out hHeld ?_
        refine tk 7 24 HT_.out HW_.out hHeld ?_
        refine on 8 25 HT_.out (fun K hK => ?_)
        refine gs Try.func71 #[.agg #[.string ((rd_T91 l0 x5_1).f0), .int .i64 ((rd_T91 l0 x5_1).f1)], .agg #[.string ((rd_T91 l1 x5_1).f0), .int .i64 ((rd_T91 l1 x5_1).f1)]] ?_
        with_reducible refine (laws_eqKinded.calls ((rd_T91 l0 x5_1).f0) ((rd_T91 l0 x5_1).f1) ((rd_T91 l1 x5_1).f0) ((rd_T91 l1 x5_1).f1) true _ A7.out).mono ?_
        rintro e w10 ⟨rfl, hb⟩
        refine ⟨_, rfl, ?_⟩
        replace HB := bS HB hb
        (try clear hb)
        (try clear hb2)
        (try clear hk)
        (try clear hi)
        refine hK.out _ _ ⟨((HB.out.cell (World.block_lt_of_cell? w _ hw309_0)).trans hw309_0), ((HB.out.cell (World.block_lt_of_cell? w _ hw309_1)).trans hw309_1), ((HB.out.cell (World.block_lt_of_cell? w _ hw310_0)).trans hw310_0), ((HB.out.cell (World.block_lt_of_cell? w _ hw310_1)).trans hw310_1)⟩ (fun hHeld => ?_)
        clear hK K
        refine nm (some 25) ?_
        refine pn 9 26 HT_.out ?_
        refine done_ (done_of HT_.out (by kernel_rfl)) ?_
        try go_wp2
        go_roundg k1
        case measure => have := HK1.out; omega
        case rel => exact ⟨(wrap64 (x5_1 + 1)), (by first | rfl | (simp; done) | (simp [*]; done)), H', ⟨by have := HK1.out; omega⟩, ⟨by exact bw HB.out⟩⟩
       ·
        replace c8 := Bool.eq_false_iff.mpr c8
        subst c8
        have H1 : (some false) = some r := by rw [if_neg (show ¬ (false = true) by decide)] at H; exact H
        clear H
        have H := H1
        clear H1
        obtain rfl := Option.some.inj H
        try go_wp2
        replace HB := Aside0.mk (below_drew1 HB.out)
        have p309 : 0 ≤ (x5_1 : Int) := of_decide_eq_true (by first | (with_reducible assumption) | assumption)
        have q309 : x5_1 < (l0.length : Int) := of_decide_eq_true (by first | (with_reducible assumption) | assumption)
        obtain ⟨ad309, e309, hx309_0, hx309_1⟩ := at_T91 HR0.out x5_1 p309 q309
        have hw309_1 := hx309_1
        have hw309_0 := hx309_0
        cases e309
        first | replace hx309_0 := (HB.out.cell (World.block_lt_of_cell? w _ hx309_0)).trans hx309_0 | skip
        first | replace hx309_1 := (HB.out.cell (World.block_lt_of_cell? w _ hx309_1)).trans hx309_1 | skip
        replace p309 := eq_true p309
        replace q309 := eq_true q309
        have p310 : 0 ≤ (x5_1 : Int) := of_decide_eq_true (by first | (with_reducible assumption) | assumption)
        have q310 : x5_1 < (l1.length : Int) := of_decide_eq_true (by first | (with_reducible assumption) | assumption)
        obtain ⟨ad310, e310, hx310_0, hx310_1⟩ := at_T91 HR1.out x5_1 p310 q310
        have hw310_1 := hx310_1
        have hw310_0 := hx310_0
        cases e310
        first | replace hx310_0 := (HB.out.cell (World.block_lt_of_cell? w _ hx310_0)).trans hx310_0 | skip
        first | replace hx310_1 := (HB.out.cell (World.block_lt_of_cell? w _ hx310_1)).trans hx310_1 | skip
        replace p310 := eq_true p310
        replace q310 := eq_true q310
        refine start_ (n := 10) (S := fun w' => w'.cell? (ad309.add ((x5_1).toNat * 2)) = some (.string ((rd_T91 l0 x5_1).f0)) ∧ w'.cell? ⟨(ad309.add ((x5_1).toNat * 2)).block, (ad309.add ((x5_1).toNat * 2)).off + 1, none⟩ = some (.int .i64 ((rd_T91 l0 x5_1).f1)) ∧ w'.cell? (ad310.add ((x5_1).toNat * 2)) = some (.string ((rd_T91 l1 x5_1).f0)) ∧ w'.cell? ⟨(ad310.add ((x5_1).toNat * 2)).block, (ad310.add ((x5_1).toNat * 2)).off + 1, none⟩ = some (.int .i64 ((rd_T91 l1 x5_1).f1))) (ds := []) (mB 10 0) (by kernel_rfl) rfl rfl ⟨((HB.out.cell (World.block_lt_of_cell? w _ hw309_0)).trans hw309_0), ((HB.out.cell (World.block_lt_of_cell? w _ hw309_1)).trans hw309_1), ((HB.out.cell (World.block_lt_of_cell? w _ hw310_0)).trans hw310_0), ((HB.out.cell (World.block_lt_of_cell? w _ hw310_1)).trans hw310_1)⟩ (fun hHeld => ?_); refine with_tabW laws_eqKindedS.tab6 laws_eqKindedS.bits6 (fun HT_ HW_ => ?_)
        generalize wr.drew = w11 at HB hx309_0 hx309_1 hx310_0 hx310_1 hHeld ⊢
        refine pn 0 17 HT_.out ?_
        refine pn 1 18 HT_.out ?_
        refine pn 2 19 HT_.out ?_
        refine pn 4 21 HT_.out ?_
        refine pn 5 22 HT_.out ?_
        refine pn 6 23 HT_.out ?_
        refine tk 3 20 HT_.out HW_.out hHeld ?_
        refine tk 7 24 HT_.out HW_.out hHeld ?_
        refine on 8 25 HT_.out (fun K hK => ?_)
        refine gs Try.func71 #[.agg #[.string ((rd_T91 l0 x5_1).f0), .int .i64 ((rd_T91 l0 x5_1).f1)], .agg #[.string ((rd_T91 l1 x5_1).f0), .int .i64 ((rd_T91 l1 x5_1).f1)]] ?_
        with_reducible refine (laws_eqKinded.calls ((rd_T91 l0 x5_1).f0) ((rd_T91 l0 x5_1).f1) ((rd_T91 l1 x5_1).f0) ((rd_T91 l1 x5_1).f1) false _ A7.out).mono ?_
        rintro e w12 ⟨rfl, hb⟩
        refine ⟨_, rfl, ?_⟩
        replace HB := bS HB hb
        (try clear hb)
        (try clear hb2)
        (try clear hk)
        (try clear hi)
        refine hK.out _ _ ⟨((HB.out.cell (World.block_lt_of_cell? w _ hw309_0)).trans hw309_0), ((HB.out.cell (World.block_lt_of_cell? w _ hw309_1)).trans hw309_1), ((HB.out.cell (World.block_lt_of_cell? w _ hw310_0)).trans hw310_0), ((HB.out.cell (World.block_lt_of_cell? w _ hw310_1)).trans hw310_1)⟩ (fun hHeld => ?_)
        clear hK K
        refine nm (some 25) ?_
        refine pn 9 26 HT_.out ?_
        refine done_ (done_of HT_.out (by kernel_rfl)) ?_
        try go_wp2
        go_ret
        exact ⟨by first | rfl | (simp [errW_none, errW_some] <;> rfl) | (simp [*, errW_none, errW_some] <;> rfl), by exact bw HB.out⟩
      ·
       rw [if_neg c6] at H; exact absurd H (by simp)
     ·
      rw [if_neg c5] at H; exact absurd H (by simp)
    ·
     rw [if_neg c4] at H; have c4b0 : decide (x5_1 < (l0.length : Int)) = false := decide_eq_false c4; clear c4
     obtain rfl := Option.some.inj H
     go_wp2
     go_ret
     exact ⟨by first | rfl | (simp [errW_none, errW_some] <;> rfl) | (simp [*, errW_none, errW_some] <;> rfl), by exact bw HB.out⟩
 ·
  rw [if_neg c3] at H; obtain ⟨c3b0, c3b1⟩ := eqN c3
  have c3b2 : (l0.length == l1.length) = false := by first | simpa using c3 | (simp at c3 ⊢; omega)
  obtain rfl := Option.some.inj H
  go_enter Try.func42, Try.ntmps42
  go_wp2
  go_ret
  exact ⟨by first | rfl | (simp [errW_none, errW_some] <;> rfl) | (simp [*, errW_none, errW_some] <;> rfl), by exact bw HB.out⟩

/-! ### laws_eqSchema: function 16 -/
def laws_eqSchema.f (k : Nat) (l0_0 : List (S91)) (l0_1 : List (S91)) (l1_0 : List (S91)) (l1_1 : List (S91)) : Option (Bool) := (laws_eqKindedS.f k l0_0 l1_0).bind fun t314 => (if t314 = true then ((laws_eqKindedS.f k l0_1 l1_1).bind fun t315 => (if t315 = true then (some true) else (some false))) else (some false))
theorem laws_eqSchema.mono : ∀ a0 a1 a2 a3 k, LeO (laws_eqSchema.f k a0 a1 a2 a3) (laws_eqSchema.f (k + 1) a0 a1 a2 a3) := by
 intro a0 a1 a2 a3 k
 unfold laws_eqSchema.f
 repeat' first
   | (with_reducible exact laws_eqKindedS.mono _ _ _)
   | (with_reducible exact LeO.refl _)
   | (with_reducible exact LeO.none _)
   | (with_reducible refine LeO.ite ?_ ?_)
   | (with_reducible refine LeO.bind ?_ (fun _ => ?_))
   | exact laws_eqKindedS.mono _ _ _
   | exact LeO.none _
   | refine LeO.ite ?_ ?_
   | refine LeO.bind ?_ (fun _ => ?_)
set_option maxHeartbeats 8000000 in
set_option maxRecDepth 100000 in
theorem laws_eqSchema.calls (k : Nat) (A0_0 : Option Addr) (c0_0 : Nat) (l0_0 : List (S91)) (A0_1 : Option Addr) (c0_1 : Nat) (l0_1 : List (S91)) (A1_0 : Option Addr) (c1_0 : Nat) (l1_0 : List (S91)) (A1_1 : Option Addr) (c1_1 : Nat) (l1_1 : List (S91)) (r : Bool) (w : World) (hr0_0 : Kd.C k91 w A0_0 l0_0.length l0_0) (hc0_0 : l0_0.length ≤ c0_0) (hr0_1 : Kd.C k91 w A0_1 l0_1.length l0_1) (hc0_1 : l0_1.length ≤ c0_1) (hr1_0 : Kd.C k91 w A1_0 l1_0.length l1_0) (hc1_0 : l1_0.length ≤ c1_0) (hr1_1 : Kd.C k91 w A1_1 l1_1.length l1_1) (hc1_1 : l1_1.length ≤ c1_1) (h : laws_eqSchema.f k l0_0 l0_1 l1_0 l1_1 = some r) :
  Calls Try.prog 16 #[.agg #[.slice A0_0 l0_0.length c0_0, .slice A0_1 l0_1.length c0_1], .agg #[.slice A1_0 l1_0.length c1_0, .slice A1_1 l1_1.length c1_1]] w fun e w' => e = .returned (.bool r) ∧ Below w.heap.size w w' := by
 have hu40 := Try.underlying40
 have HR0_0 := Aside0.mk hr0_0
 have HC0_0 := Aside0.mk hc0_0
 clear hr0_0 hc0_0
 have HR0_1 := Aside0.mk hr0_1
 have HC0_1 := Aside0.mk hc0_1
 clear hr0_1 hc0_1
 have HR1_0 := Aside0.mk hr1_0
 have HC1_0 := Aside0.mk hc1_0
 clear hr1_0 hc1_0
 have HR1_1 := Aside0.mk hr1_1
 have HC1_1 := Aside0.mk hc1_1
 clear hr1_1 hc1_1
 have HB := Aside0.mk (Below.refl w.heap.size w)
 have H : ((laws_eqKindedS.f k l0_0 l1_0).bind fun t314 => (if t314 = true then ((laws_eqKindedS.f k l0_1 l1_1).bind fun t315 => (if t315 = true then (some true) else (some false))) else (some false))) = some r := h
 clear h
 replace H := Option.bind_eq_some_iff.mp H
 obtain ⟨t314, A30, H⟩ := H
 replace H : (if t314 = true then ((laws_eqKindedS.f k l0_1 l1_1).bind fun t315 => (if t315 = true then (some true) else (some false))) else (some false)) = some r := H
 have A3 := Aside0.mk A30
 clear A30
 by_cases c4 : t314 = true
 ·
  subst c4
  have H1 : ((laws_eqKindedS.f k l0_1 l1_1).bind fun t315 => (if t315 = true then (some true) else (some false))) = some r := by rw [if_pos rfl] at H; exact H
  clear H
  have H := H1
  clear H1
  replace H := Option.bind_eq_some_iff.mp H
  obtain ⟨t315, A50, H⟩ := H
  replace H : (if t315 = true then (some true) else (some false)) = some r := H
  have A5 := Aside0.mk A50
  clear A50
  by_cases c6 : t315 = true
  ·
   subst c6
   have H1 : (some true) = some r := by rw [if_pos rfl] at H; exact H
   clear H
   have H := H1
   clear H1
   obtain rfl := Option.some.inj H
   go_enter Try.func16, Try.ntmps16
   go_wp2_with (first | ((with_reducible refine gate_dst (N := 2) rfl ?_); refine bx 2 #[.slice A0_0 l0_0.length c0_0, .slice A0_1 l0_1.length c0_1] 40 ?_; intro gb312 hg w7 hbox hb; have BK312 := Aside0.mk (hbox); have GW312 := gwB HB hg; have GE312 := gwB HB hg; replace HB := bS HB hb; clear hb hbox hg) | ((with_reducible refine gate_dst (N := 3) rfl ?_); refine bx 3 #[.slice A1_0 l1_0.length c1_0, .slice A1_1 l1_1.length c1_1] 40 ?_; intro gb313 hg w8 hbox hb; have BK313 := Aside0.mk (hbox); have GW313 := gwB HB hg; have GE313 := gwB HB hg; replace HB := bS HB hb; have NB312_313 := nbL BK312 hg; have NB313_312 := nbR BK312 hg; replace BK312 := bB BK312 hb; clear hb hbox hg; have hnb9 := NB312_313.out; have hnc9 := NB313_312.out; obtain ⟨hcz10_0, hcz10_1⟩ := cs2 BK312.out; obtain ⟨hfz10_0, hfz10_1⟩ := fz2 BK312.out; obtain ⟨hcz11_0, hcz11_1⟩ := cs2 BK313.out; obtain ⟨hfz11_0, hfz11_1⟩ := fz2 BK313.out) | ((with_reducible refine gate_callee (f := 42) rfl ?_); refine gl (some 9) Try.func42 #[.slice A0_0 l0_0.length c0_0, .slice A1_0 l1_0.length c1_0] ?_; (with_reducible refine (laws_eqKindedS.calls k _ _ l0_0 _ _ l1_0 true _ ?side1 ?side2 ?side3 ?side4 A3.out).mono ?_); (case side1 => repeat (first | exact (Kd.C_below HR0_0.out HB.out) | (with_reducible refine Kd.C_alloc ?_ _) | (with_reducible refine Kd.C_drewN ?_ _) | (with_reducible refine Kd.C_drew ?_))); (case side2 => exact HC0_0.out); (case side3 => repeat (first | exact (Kd.C_below HR1_0.out HB.out) | (with_reducible refine Kd.C_alloc ?_ _) | (with_reducible refine Kd.C_drewN ?_ _) | (with_reducible refine Kd.C_drew ?_))); (case side4 => exact HC1_0.out); rintro e w12 ⟨rfl, hb⟩; refine ⟨_, rfl, ?_⟩; replace BK312 := bB BK312 hb; replace BK313 := bB BK313 hb; replace HB := bS HB hb; (try clear hb); (try clear hb2); (try clear hk); (try clear hi); obtain ⟨hcz13_0, hcz13_1⟩ := cs2 BK312.out; obtain ⟨hfz13_0, hfz13_1⟩ := fz2 BK312.out; obtain ⟨hcz14_0, hcz14_1⟩ := cs2 BK313.out; obtain ⟨hfz14_0, hfz14_1⟩ := fz2 BK313.out) | ((with_reducible refine gate_callee (f := 42) rfl ?_); refine gl (some 15) Try.func42 #[.slice A0_1 l0_1.length c0_1, .slice A1_1 l1_1.length c1_1] ?_; (with_reducible refine (laws_eqKindedS.calls k _ _ l0_1 _ _ l1_1 true _ ?side1 ?side2 ?side3 ?side4 A5.out).mono ?_); (case side1 => repeat (first | exact (Kd.C_below HR0_1.out HB.out) | (with_reducible refine Kd.C_alloc ?_ _) | (with_reducible refine Kd.C_drewN ?_ _) | (with_reducible refine Kd.C_drew ?_))); (case side2 => exact HC0_1.out); (case side3 => repeat (first | exact (Kd.C_below HR1_1.out HB.out) | (with_reducible refine Kd.C_alloc ?_ _) | (with_reducible refine Kd.C_drewN ?_ _) | (with_reducible refine Kd.C_drew ?_))); (case side4 => exact HC1_1.out); rintro e w15 ⟨rfl, hb⟩; refine ⟨_, rfl, ?_⟩; replace BK312 := bB BK312 hb; replace BK313 := bB BK313 hb; replace HB := bS HB hb; (try clear hb); (try clear hb2); (try clear hk); (try clear hi)))
   go_ret
   exact ⟨by first | rfl | (simp [errW_none, errW_some] <;> rfl) | (simp [*, errW_none, errW_some] <;> rfl), by exact bw HB.out⟩
  ·
   replace c6 := Bool.eq_false_iff.mpr c6
   subst c6
   have H1 : (some false) = some r := by rw [if_neg (show ¬ (false = true) by decide)] at H; exact H
   clear H
   have H := H1
   clear H1
   obtain rfl := Option.some.inj H
   go_enter Try.func16, Try.ntmps16
   go_wp2_with (first | ((with_reducible refine gate_dst (N := 2) rfl ?_); refine bx 2 #[.slice A0_0 l0_0.length c0_0, .slice A0_1 l0_1.length c0_1] 40 ?_; intro gb312 hg w16 hbox hb; have BK312 := Aside0.mk (hbox); have GW312 := gwB HB hg; have GE312 := gwB HB hg; replace HB := bS HB hb; clear hb hbox hg) | ((with_reducible refine gate_dst (N := 3) rfl ?_); refine bx 3 #[.slice A1_0 l1_0.length c1_0, .slice A1_1 l1_1.length c1_1] 40 ?_; intro gb313 hg w17 hbox hb; have BK313 := Aside0.mk (hbox); have GW313 := gwB HB hg; have GE313 := gwB HB hg; replace HB := bS HB hb; have NB312_313 := nbL BK312 hg; have NB313_312 := nbR BK312 hg; replace BK312 := bB BK312 hb; clear hb hbox hg; have hnb18 := NB312_313.out; have hnc18 := NB313_312.out; obtain ⟨hcz19_0, hcz19_1⟩ := cs2 BK312.out; obtain ⟨hfz19_0, hfz19_1⟩ := fz2 BK312.out; obtain ⟨hcz20_0, hcz20_1⟩ := cs2 BK313.out; obtain ⟨hfz20_0, hfz20_1⟩ := fz2 BK313.out) | ((with_reducible refine gate_callee (f := 42) rfl ?_); refine gl (some 9) Try.func42 #[.slice A0_0 l0_0.length c0_0, .slice A1_0 l1_0.length c1_0] ?_; (with_reducible refine (laws_eqKindedS.calls k _ _ l0_0 _ _ l1_0 true _ ?side1 ?side2 ?side3 ?side4 A3.out).mono ?_); (case side1 => repeat (first | exact (Kd.C_below HR0_0.out HB.out) | (with_reducible refine Kd.C_alloc ?_ _) | (with_reducible refine Kd.C_drewN ?_ _) | (with_reducible refine Kd.C_drew ?_))); (case side2 => exact HC0_0.out); (case side3 => repeat (first | exact (Kd.C_below HR1_0.out HB.out) | (with_reducible refine Kd.C_alloc ?_ _) | (with_reducible refine Kd.C_drewN ?_ _) | (with_reducible refine Kd.C_drew ?_))); (case side4 => exact HC1_0.out); rintro e w21 ⟨rfl, hb⟩; refine ⟨_, rfl, ?_⟩; replace BK312 := bB BK312 hb; replace BK313 := bB BK313 hb; replace HB := bS HB hb; (try clear hb); (try clear hb2); (try clear hk); (try clear hi); obtain ⟨hcz22_0, hcz22_1⟩ := cs2 BK312.out; obtain ⟨hfz22_0, hfz22_1⟩ := fz2 BK312.out; obtain ⟨hcz23_0, hcz23_1⟩ := cs2 BK313.out; obtain ⟨hfz23_0, hfz23_1⟩ := fz2 BK313.out) | ((with_reducible refine gate_callee (f := 42) rfl ?_); refine gl (some 15) Try.func42 #[.slice A0_1 l0_1.length c0_1, .slice A1_1 l1_1.length c1_1] ?_; (with_reducible refine (laws_eqKindedS.calls k _ _ l0_1 _ _ l1_1 false _ ?side1 ?side2 ?side3 ?side4 A5.out).mono ?_); (case side1 => repeat (first | exact (Kd.C_below HR0_1.out HB.out) | (with_reducible refine Kd.C_alloc ?_ _) | (with_reducible refine Kd.C_drewN ?_ _) | (with_reducible refine Kd.C_drew ?_))); (case side2 => exact HC0_1.out); (case side3 => repeat (first | exact (Kd.C_below HR1_1.out HB.out) | (with_reducible refine Kd.C_alloc ?_ _) | (with_reducible refine Kd.C_drewN ?_ _) | (with_reducible refine Kd.C_drew ?_))); (case side4 => exact HC1_1.out); rintro e w24 ⟨rfl, hb⟩; refine ⟨_, rfl, ?_⟩; replace BK312 := bB BK312 hb; replace BK313 := bB BK313 hb; replace HB := bS HB hb; (try clear hb); (try clear hb2); (try clear hk); (try clear hi)))
   go_ret
   exact ⟨by first | rfl | (simp [errW_none, errW_some] <;> rfl) | (simp [*, errW_none, errW_some] <;> rfl), by exact bw HB.out⟩
 ·
  replace c4 := Bool.eq_false_iff.mpr c4
  subst c4
  have H1 : (some false) = some r := by rw [if_neg (show ¬ (false = true) by decide)] at H; exact H
  clear H
  have H := H1
  clear H1
  obtain rfl := Option.some.inj H
  go_enter Try.func16, Try.ntmps16
  go_wp2_with (first | ((with_reducible refine gate_dst (N := 2) rfl ?_); refine bx 2 #[.slice A0_0 l0_0.length c0_0, .slice A0_1 l0_1.length c0_1] 40 ?_; intro gb312 hg w25 hbox hb; have BK312 := Aside0.mk (hbox); have GW312 := gwB HB hg; have GE312 := gwB HB hg; replace HB := bS HB hb; clear hb hbox hg) | ((with_reducible refine gate_dst (N := 3) rfl ?_); refine bx 3 #[.slice A1_0 l1_0.length c1_0, .slice A1_1 l1_1.length c1_1] 40 ?_; intro gb313 hg w26 hbox hb; have BK313 := Aside0.mk (hbox); have GW313 := gwB HB hg; have GE313 := gwB HB hg; replace HB := bS HB hb; have NB312_313 := nbL BK312 hg; have NB313_312 := nbR BK312 hg; replace BK312 := bB BK312 hb; clear hb hbox hg; have hnb27 := NB312_313.out; have hnc27 := NB313_312.out; obtain ⟨hcz28_0, hcz28_1⟩ := cs2 BK312.out; obtain ⟨hfz28_0, hfz28_1⟩ := fz2 BK312.out; obtain ⟨hcz29_0, hcz29_1⟩ := cs2 BK313.out; obtain ⟨hfz29_0, hfz29_1⟩ := fz2 BK313.out) | ((with_reducible refine gate_callee (f := 42) rfl ?_); refine gl (some 9) Try.func42 #[.slice A0_0 l0_0.length c0_0, .slice A1_0 l1_0.length c1_0] ?_; (with_reducible refine (laws_eqKindedS.calls k _ _ l0_0 _ _ l1_0 false _ ?side1 ?side2 ?side3 ?side4 A3.out).mono ?_); (case side1 => repeat (first | exact (Kd.C_below HR0_0.out HB.out) | (with_reducible refine Kd.C_alloc ?_ _) | (with_reducible refine Kd.C_drewN ?_ _) | (with_reducible refine Kd.C_drew ?_))); (case side2 => exact HC0_0.out); (case side3 => repeat (first | exact (Kd.C_below HR1_0.out HB.out) | (with_reducible refine Kd.C_alloc ?_ _) | (with_reducible refine Kd.C_drewN ?_ _) | (with_reducible refine Kd.C_drew ?_))); (case side4 => exact HC1_0.out); rintro e w30 ⟨rfl, hb⟩; refine ⟨_, rfl, ?_⟩; replace BK312 := bB BK312 hb; replace BK313 := bB BK313 hb; replace HB := bS HB hb; (try clear hb); (try clear hb2); (try clear hk); (try clear hi)))
  go_ret
  exact ⟨by first | rfl | (simp [errW_none, errW_some] <;> rfl) | (simp [*, errW_none, errW_some] <;> rfl), by exact bw HB.out⟩

end Go.Proofs.Ytbbbgochcfccgaa.P
