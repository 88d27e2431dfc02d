-- Written by a program of this session (wip/tool).
import Derived.Test.YtbbbgochcfccgaaPx0
import Derived.Test.YtbbbgochcfccgaaPx1038
import Derived.Test.YtbbbgochcfccgaaPx1061
import Derived.Test.YtbbbgochcfccgaaPx1064
namespace Go.Proofs.Ytbbbgochcfccgaa.P
open Go.RowKit Go.Proofs.YtbbbgochcfccgaaW.PrintWords Go.Proofs.YtbbbgochcfccgaaW.PrintLast Go.Proofs.YtbbbgochcfccgaaW.PrintMore
attribute [local go_sem] max2_int min2_int max_two min_two max_three min_three max_four min_four   -- for this text's walks alone
set_option linter.unusedVariables false
set_option linter.unusedSimpArgs false

/-! ### spec_KindOf: function 13 -/
def spec_KindOf.f (k : Nat) (l0_0 : List (S91)) (l0_1 : List (S91)) (a1_0 : Int) (a1_1 : Int) (a1_2 : ByteArray) (l1_3 : List (S29)) : Option (Int) := (spec_SchemaValid.f k l0_0 l0_1).bind fun t264 => (if t264 = true then ((spec_ExprValid.f k a1_0 a1_1 a1_2 l1_3).bind fun t265 => (if t265 = true then ((spec_l8Kind.f k l0_0 l0_1 a1_0 a1_1 a1_2 l1_3).bind fun t266 => (some t266)) else (some 0))) else (some 0))
theorem spec_KindOf.mono : ∀ a0 a1 a2 a3 a4 a5 k, LeO (spec_KindOf.f k a0 a1 a2 a3 a4 a5) (spec_KindOf.f (k + 1) a0 a1 a2 a3 a4 a5) := by
 intro a0 a1 a2 a3 a4 a5 k
 unfold spec_KindOf.f
 repeat' first
   | (with_reducible exact spec_ExprValid.mono _ _ _ _ _)
   | (with_reducible exact spec_SchemaValid.mono _ _ _)
   | (with_reducible exact spec_l8Kind.mono _ _ _ _ _ _ _)
   | (with_reducible exact LeO.refl _)
   | (with_reducible exact LeO.none _)
   | (with_reducible refine LeO.ite ?_ ?_)
   | (with_reducible refine LeO.bind ?_ (fun _ => ?_))
   | exact spec_ExprValid.mono _ _ _ _ _
   | exact spec_SchemaValid.mono _ _ _
   | exact spec_l8Kind.mono _ _ _ _ _ _ _
   | exact LeO.none _
   | refine LeO.ite ?_ ?_
   | refine LeO.bind ?_ (fun _ => ?_)
set_option maxHeartbeats 8000000 in
set_option maxRecDepth 100000 in
theorem spec_KindOf.calls (k : Nat) (A0_0 : Option Addr) (c0_0 : Nat) (l0_0 : List (S91)) (A0_1 : Option Addr) (c0_1 : Nat) (l0_1 : List (S91)) (a1_0 : Int) (a1_1 : Int) (a1_2 : ByteArray) (A1_3 : Option Addr) (c1_3 : Nat) (l1_3 : List (S29)) (r : Int) (w : World) (hr0_0 : Kd.C k91 w A0_0 l0_0.length l0_0) (hc0_0 : l0_0.length ≤ c0_0) (hr0_1 : Kd.C k91 w A0_1 l0_1.length l0_1) (hc0_1 : l0_1.length ≤ c0_1) (hr1_3 : Kd.C k29 w A1_3 l1_3.length l1_3) (hc1_3 : l1_3.length ≤ c1_3) (h : spec_KindOf.f k l0_0 l0_1 a1_0 a1_1 a1_2 l1_3 = some r) :
  Calls Try.prog 13 #[.agg #[.slice A0_0 l0_0.length c0_0, .slice A0_1 l0_1.length c0_1], .agg #[.int .i64 a1_0, .int .i64 a1_1, .string a1_2, .slice A1_3 l1_3.length c1_3]] w fun e w' => e = .returned (.int .i64 r) ∧ Below w.heap.size w w' := by
 have hu40 := Try.underlying40
 have hu29 := Try.underlying29
 have HR0_0 := Aside0.mk hr0_0
 have HC0_0 := Aside0.mk hc0_0
 clear hr0_0 hc0_0
 have HR0_1 := Aside0.mk hr0_1
 have HC0_1 := Aside0.mk hc0_1
 clear hr0_1 hc0_1
 have HR1_3 := Aside0.mk hr1_3
 have HC1_3 := Aside0.mk hc1_3
 clear hr1_3 hc1_3
 have HB := Aside0.mk (Below.refl w.heap.size w)
 have H : ((spec_SchemaValid.f k l0_0 l0_1).bind fun t264 => (if t264 = true then ((spec_ExprValid.f k a1_0 a1_1 a1_2 l1_3).bind fun t265 => (if t265 = true then ((spec_l8Kind.f k l0_0 l0_1 a1_0 a1_1 a1_2 l1_3).bind fun t266 => (some t266)) else (some 0))) else (some 0))) = some r := h
 clear h
 replace H := Option.bind_eq_some_iff.mp H
 obtain ⟨t264, A30, H⟩ := H
 replace H : (if t264 = true then ((spec_ExprValid.f k a1_0 a1_1 a1_2 l1_3).bind fun t265 => (if t265 = true then ((spec_l8Kind.f k l0_0 l0_1 a1_0 a1_1 a1_2 l1_3).bind fun t266 => (some t266)) else (some 0))) else (some 0)) = some r := H
 have A3 := Aside0.mk A30
 clear A30
 by_cases c4 : t264 = true
 ·
  subst c4
  have H1 : ((spec_ExprValid.f k a1_0 a1_1 a1_2 l1_3).bind fun t265 => (if t265 = true then ((spec_l8Kind.f k l0_0 l0_1 a1_0 a1_1 a1_2 l1_3).bind fun t266 => (some t266)) else (some 0))) = some r := by rw [if_pos rfl] at H; exact H
  clear H
  have H := H1
  clear H1
  replace H := Option.bind_eq_some_iff.mp H
  obtain ⟨t265, A50, H⟩ := H
  replace H : (if t265 = true then ((spec_l8Kind.f k l0_0 l0_1 a1_0 a1_1 a1_2 l1_3).bind fun t266 => (some t266)) else (some 0)) = some r := H
  have A5 := Aside0.mk A50
  clear A50
  by_cases c6 : t265 = true
  ·
   subst c6
   have H1 : ((spec_l8Kind.f k l0_0 l0_1 a1_0 a1_1 a1_2 l1_3).bind fun t266 => (some t266)) = some r := by rw [if_pos rfl] at H; exact H
   clear H
   have H := H1
   clear H1
   replace H := Option.bind_eq_some_iff.mp H
   obtain ⟨t266, A70, H⟩ := H
   replace H : (some t266) = some r := H
   have A7 := Aside0.mk A70
   clear A70
   obtain rfl := Option.some.inj H
   go_enter Try.func13, Try.ntmps13
   go_wp2_with (first | ((with_reducible refine gate_dst (N := 2) rfl ?_); refine bx 2 #[.slice A0_0 l0_0.length c0_0, .slice A0_1 l0_1.length c0_1] 40 ?_; intro gb262 hg w8 hbox hb; have BK262 := Aside0.mk (hbox); have GW262 := gwB HB hg; have GE262 := gwB HB hg; replace HB := bS HB hb; clear hb hbox hg) | ((with_reducible refine gate_dst (N := 3) rfl ?_); refine bx 3 #[.int .i64 a1_0, .int .i64 a1_1, .string a1_2, .slice A1_3 l1_3.length c1_3] 29 ?_; intro gb263 hg w9 hbox hb; have BK263 := Aside0.mk (hbox); have GW263 := gwB HB hg; have GE263 := gwB HB hg; replace HB := bS HB hb; have NB262_263 := nbL BK262 hg; have NB263_262 := nbR BK262 hg; replace BK262 := bB BK262 hb; clear hb hbox hg; have hnb10 := NB262_263.out; have hnc10 := NB263_262.out; obtain ⟨hcz11_0, hcz11_1⟩ := cs2 BK262.out; obtain ⟨hfz11_0, hfz11_1⟩ := fz2 BK262.out) | ((with_reducible refine gate_callee (f := 37) rfl ?_); refine gl (some 6) Try.func37 #[.agg #[.slice A0_0 l0_0.length c0_0, .slice A0_1 l0_1.length c0_1]] ?_; (with_reducible refine (spec_SchemaValid.calls k _ _ l0_0 _ _ l0_1 true _ ?side1 ?side2 ?side3 ?side4 A3.out).mono ?_); (case side1 => repeat (first | exact (Kd.C_below HR0_0.out HB.out) | (with_reducible refine Kd.C_alloc ?_ _) | (with_reducible refine Kd.C_drewN ?_ _) | (with_reducible refine Kd.C_drew ?_))); (case side2 => exact HC0_0.out); (case side3 => repeat (first | exact (Kd.C_below HR0_1.out HB.out) | (with_reducible refine Kd.C_alloc ?_ _) | (with_reducible refine Kd.C_drewN ?_ _) | (with_reducible refine Kd.C_drew ?_))); (case side4 => exact HC0_1.out); rintro e w12 ⟨rfl, hb⟩; refine ⟨_, rfl, ?_⟩; replace BK262 := bB BK262 hb; replace BK263 := bB BK263 hb; replace HB := bS HB hb; (try clear hb); (try clear hb2); (try clear hk); (try clear hi); obtain ⟨hcz13_0, hcz13_1, hcz13_2, hcz13_3⟩ := cs4 BK263.out; obtain ⟨hfz13_0, hfz13_1, hfz13_2, hfz13_3⟩ := fz4 BK263.out) | (go_at_call 29; (with_reducible refine (spec_ExprValid.calls k a1_0 a1_1 a1_2 _ _ l1_3 true _ ?side1 ?side2 A5.out).mono ?_); (case side1 => repeat (first | exact (Kd.C_below HR1_3.out HB.out) | (with_reducible refine Kd.C_alloc ?_ _) | (with_reducible refine Kd.C_drewN ?_ _) | (with_reducible refine Kd.C_drew ?_))); (case side2 => exact HC1_3.out); rintro e w14 ⟨rfl, hb⟩; have n0_ := bB BK262 hb; have n1_ := bB BK263 hb; have n2_ := bS HB hb; clear BK262; clear BK263; clear HB; have BK262 := n0_; have BK263 := n1_; have HB := n2_; clear n0_ n1_ n2_; (try clear hb); (try clear hb2); (try clear hk); (try clear hi); obtain ⟨hcz15_0, hcz15_1⟩ := cs2 BK262.out; obtain ⟨hfz15_0, hfz15_1⟩ := fz2 BK262.out; obtain ⟨hcz16_0, hcz16_1, hcz16_2, hcz16_3⟩ := cs4 BK263.out; obtain ⟨hfz16_0, hfz16_1, hfz16_2, hfz16_3⟩ := fz4 BK263.out) | ((with_reducible refine gate_callee (f := 38) rfl ?_); refine gl (some 15) Try.func38 #[.agg #[.slice A0_0 l0_0.length c0_0, .slice A0_1 l0_1.length c0_1], .agg #[.int .i64 a1_0, .int .i64 a1_1, .string a1_2, .slice A1_3 l1_3.length c1_3]] ?_; (with_reducible refine (spec_l8Kind.calls k _ _ l0_0 _ _ l0_1 a1_0 a1_1 a1_2 _ _ l1_3 t266 _ ?side1 ?side2 ?side3 ?side4 ?side5 ?side6 A7.out).mono ?_); (case side1 => repeat (first | exact (Kd.C_below HR0_0.out HB.out) | (with_reducible refine Kd.C_alloc ?_ _) | (with_reducible refine Kd.C_drewN ?_ _) | (with_reducible refine Kd.C_drew ?_))); (case side2 => exact HC0_0.out); (case side3 => repeat (first | exact (Kd.C_below HR0_1.out HB.out) | (with_reducible refine Kd.C_alloc ?_ _) | (with_reducible refine Kd.C_drewN ?_ _) | (with_reducible refine Kd.C_drew ?_))); (case side4 => exact HC0_1.out); (case side5 => repeat (first | exact (Kd.C_below HR1_3.out HB.out) | (with_reducible refine Kd.C_alloc ?_ _) | (with_reducible refine Kd.C_drewN ?_ _) | (with_reducible refine Kd.C_drew ?_))); (case side6 => exact HC1_3.out); rintro e w17 ⟨rfl, hb⟩; refine ⟨_, rfl, ?_⟩; replace BK262 := bB BK262 hb; replace BK263 := bB BK263 hb; replace HB := bS HB hb; (try clear hb); (try clear hb2); (try clear hk); (try clear hi)))
   go_ret
   exact ⟨by first | rfl | (simp [errW_none, errW_some] <;> rfl) | (simp [*, errW_none, errW_some] <;> rfl), by exact bw HB.out⟩
  ·
   replace c6 := Bool.eq_false_iff.mpr c6
   subst c6
   have H1 : (some 0) = some r := by rw [if_neg (show ¬ (false = true) by decide)] at H; exact H
   clear H
   have H := H1
   clear H1
   obtain rfl := Option.some.inj H
   go_enter Try.func13, Try.ntmps13
   go_wp2_with (first | ((with_reducible refine gate_dst (N := 2) rfl ?_); refine bx 2 #[.slice A0_0 l0_0.length c0_0, .slice A0_1 l0_1.length c0_1] 40 ?_; intro gb262 hg w18 hbox hb; have BK262 := Aside0.mk (hbox); have GW262 := gwB HB hg; have GE262 := gwB HB hg; replace HB := bS HB hb; clear hb hbox hg) | ((with_reducible refine gate_dst (N := 3) rfl ?_); refine bx 3 #[.int .i64 a1_0, .int .i64 a1_1, .string a1_2, .slice A1_3 l1_3.length c1_3] 29 ?_; intro gb263 hg w19 hbox hb; have BK263 := Aside0.mk (hbox); have GW263 := gwB HB hg; have GE263 := gwB HB hg; replace HB := bS HB hb; have NB262_263 := nbL BK262 hg; have NB263_262 := nbR BK262 hg; replace BK262 := bB BK262 hb; clear hb hbox hg; have hnb20 := NB262_263.out; have hnc20 := NB263_262.out; obtain ⟨hcz21_0, hcz21_1⟩ := cs2 BK262.out; obtain ⟨hfz21_0, hfz21_1⟩ := fz2 BK262.out) | ((with_reducible refine gate_callee (f := 37) rfl ?_); refine gl (some 6) Try.func37 #[.agg #[.slice A0_0 l0_0.length c0_0, .slice A0_1 l0_1.length c0_1]] ?_; (with_reducible refine (spec_SchemaValid.calls k _ _ l0_0 _ _ l0_1 true _ ?side1 ?side2 ?side3 ?side4 A3.out).mono ?_); (case side1 => repeat (first | exact (Kd.C_below HR0_0.out HB.out) | (with_reducible refine Kd.C_alloc ?_ _) | (with_reducible refine Kd.C_drewN ?_ _) | (with_reducible refine Kd.C_drew ?_))); (case side2 => exact HC0_0.out); (case side3 => repeat (first | exact (Kd.C_below HR0_1.out HB.out) | (with_reducible refine Kd.C_alloc ?_ _) | (with_reducible refine Kd.C_drewN ?_ _) | (with_reducible refine Kd.C_drew ?_))); (case side4 => exact HC0_1.out); rintro e w22 ⟨rfl, hb⟩; refine ⟨_, rfl, ?_⟩; replace BK262 := bB BK262 hb; replace BK263 := bB BK263 hb; replace HB := bS HB hb; (try clear hb); (try clear hb2); (try clear hk); (try clear hi); obtain ⟨hcz23_0, hcz23_1, hcz23_2, hcz23_3⟩ := cs4 BK263.out; obtain ⟨hfz23_0, hfz23_1, hfz23_2, hfz23_3⟩ := fz4 BK263.out) | (go_at_call 29; (with_reducible refine (spec_ExprValid.calls k a1_0 a1_1 a1_2 _ _ l1_3 false _ ?side1 ?side2 A5.out).mono ?_); (case side1 => repeat (first | exact (Kd.C_below HR1_3.out HB.out) | (with_reducible refine Kd.C_alloc ?_ _) | (with_reducible refine Kd.C_drewN ?_ _) | (with_reducible refine Kd.C_drew ?_))); (case side2 => exact HC1_3.out); rintro e w24 ⟨rfl, hb⟩; have n0_ := bB BK262 hb; have n1_ := bB BK263 hb; have n2_ := bS HB hb; clear BK262; clear BK263; clear HB; have BK262 := n0_; have BK263 := n1_; have HB := n2_; clear n0_ n1_ n2_; (try clear hb); (try clear hb2); (try clear hk); (try clear hi)))
   go_ret
   exact ⟨by first | rfl | (simp [errW_none, errW_some] <;> rfl) | (simp [*, errW_none, errW_some] <;> rfl), by exact bw HB.out⟩
 ·
  replace c4 := Bool.eq_false_iff.mpr c4
  subst c4
  have H1 : (some 0) = some r := by rw [if_neg (show ¬ (false = true) by decide)] at H; exact H
  clear H
  have H := H1
  clear H1
  obtain rfl := Option.some.inj H
  go_enter Try.func13, Try.ntmps13
  go_wp2_with (first | ((with_reducible refine gate_dst (N := 2) rfl ?_); refine bx 2 #[.slice A0_0 l0_0.length c0_0, .slice A0_1 l0_1.length c0_1] 40 ?_; intro gb262 hg w25 hbox hb; have BK262 := Aside0.mk (hbox); have GW262 := gwB HB hg; have GE262 := gwB HB hg; replace HB := bS HB hb; clear hb hbox hg) | ((with_reducible refine gate_dst (N := 3) rfl ?_); refine bx 3 #[.int .i64 a1_0, .int .i64 a1_1, .string a1_2, .slice A1_3 l1_3.length c1_3] 29 ?_; intro gb263 hg w26 hbox hb; have BK263 := Aside0.mk (hbox); have GW263 := gwB HB hg; have GE263 := gwB HB hg; replace HB := bS HB hb; have NB262_263 := nbL BK262 hg; have NB263_262 := nbR BK262 hg; replace BK262 := bB BK262 hb; clear hb hbox hg; have hnb27 := NB262_263.out; have hnc27 := NB263_262.out; obtain ⟨hcz28_0, hcz28_1⟩ := cs2 BK262.out; obtain ⟨hfz28_0, hfz28_1⟩ := fz2 BK262.out) | ((with_reducible refine gate_callee (f := 37) rfl ?_); refine gl (some 6) Try.func37 #[.agg #[.slice A0_0 l0_0.length c0_0, .slice A0_1 l0_1.length c0_1]] ?_; (with_reducible refine (spec_SchemaValid.calls k _ _ l0_0 _ _ l0_1 false _ ?side1 ?side2 ?side3 ?side4 A3.out).mono ?_); (case side1 => repeat (first | exact (Kd.C_below HR0_0.out HB.out) | (with_reducible refine Kd.C_alloc ?_ _) | (with_reducible refine Kd.C_drewN ?_ _) | (with_reducible refine Kd.C_drew ?_))); (case side2 => exact HC0_0.out); (case side3 => repeat (first | exact (Kd.C_below HR0_1.out HB.out) | (with_reducible refine Kd.C_alloc ?_ _) | (with_reducible refine Kd.C_drewN ?_ _) | (with_reducible refine Kd.C_drew ?_))); (case side4 => exact HC0_1.out); rintro e w29 ⟨rfl, hb⟩; refine ⟨_, rfl, ?_⟩; replace BK262 := bB BK262 hb; replace BK263 := bB BK263 hb; replace HB := bS HB hb; (try clear hb); (try clear hb2); (try clear hk); (try clear hi)))
  go_ret
  exact ⟨by first | rfl | (simp [errW_none, errW_some] <;> rfl) | (simp [*, errW_none, errW_some] <;> rfl), by exact bw HB.out⟩

/-! ### laws_toKinded: function 67 -/
def laws_toKinded.f (a0_0 : ByteArray) (a0_1 : Int) : Option (ByteArray × Int) := some (a0_0, a0_1)
set_option maxHeartbeats 8000000 in
set_option maxRecDepth 100000 in
theorem laws_toKinded.calls (a0_0 : ByteArray) (a0_1 : Int) (r1 : ByteArray) (r2 : Int) (w : World) (h : laws_toKinded.f a0_0 a0_1 = some (r1, r2)) :
  Calls Try.prog 67 #[.agg #[.string a0_0, .int .i64 a0_1]] w fun e w' => e = .returned (.agg #[.string r1, .int .i64 r2]) ∧ Below w.heap.size w w' := by
 have hu87 := Try.underlying87
 have hu91 := Try.underlying91
 have HB := Aside0.mk (Below.refl w.heap.size w)
 have H : (some (a0_0, a0_1)) = some (r1, r2) := h
 clear h
 simp only [Option.some.injEq, Prod.mk.injEq] at H
 obtain ⟨rfl, rfl⟩ := H
 go_enter Try.func67, Try.ntmps67
 go_wp2_with (first | ((with_reducible refine gate_dst (N := 1) rfl ?_); refine bx 1 #[.string a0_0, .int .i64 a0_1] 87 ?_; intro gb267 hg w2 hbox hb; have BK267 := Aside0.mk (hbox); have GW267 := gwB HB hg; have GE267 := gwB HB hg; replace HB := bS HB hb; clear hb hbox hg) | ((with_reducible refine gate_dst (N := 2) rfl ?_); refine bx 2 #[.string (⟨#[]⟩ : ByteArray), .int .i64 0] 91 ?_; intro gb268 hg w3 hbox hb; have BK268 := Aside0.mk (hbox); have GW268 := gwB HB hg; have GE268 := gwB HB hg; replace HB := bS HB hb; have NB267_268 := nbL BK267 hg; have NB268_267 := nbR BK267 hg; replace BK267 := bB BK267 hb; clear hb hbox hg) | ((with_reducible refine gate_dst (N := 3) rfl ?_); refine bx 3 #[.string (⟨#[]⟩ : ByteArray), .int .i64 0] 91 ?_; intro gb269 hg w4 hbox hb; have BK269 := Aside0.mk (hbox); have GW269 := gwB HB hg; have GE269 := gwB HB hg; replace HB := bS HB hb; have NB267_269 := nbL BK267 hg; have NB269_267 := nbR BK267 hg; replace BK267 := bB BK267 hb; have NB268_269 := nbL BK268 hg; have NB269_268 := nbR BK268 hg; replace BK268 := bB BK268 hb; clear hb hbox hg; have hnb5 := NB267_268.out; have hnc5 := NB268_267.out; have hnb6 := NB267_269.out; have hnc6 := NB269_267.out; obtain ⟨hcz7_0, hcz7_1⟩ := cs2 BK267.out; obtain ⟨hfz7_0, hfz7_1⟩ := fz2 BK267.out; have hnb8 := NB269_268.out; have hnc8 := NB268_269.out; obtain ⟨hcz9_0, hcz9_1⟩ := cs2 BK269.out; obtain ⟨hfz9_0, hfz9_1⟩ := fz2 BK269.out; obtain ⟨hcz10_0, hcz10_1⟩ := cs2 BK268.out; obtain ⟨hfz10_0, hfz10_1⟩ := fz2 BK268.out))
 refine bodyPost_ret (results_cell_row rfl _ _ gb268 91 #[.string a0_0, .int .i64 a0_1] (0, 0) _ rfl (bp BK268) Try.underlying91 rfl (by kernel_rfl)) rfl ?_
 exact ⟨by first | rfl | (simp [errW_none, errW_some] <;> rfl) | (simp [*, errW_none, errW_some] <;> rfl), by exact bw HB.out⟩

/-! ### laws_toKindedS: function 39 -/
def laws_toKindedS.l0 : Nat → List (S87) → List (S91) → Int → Option ((List (S91)))
 | 0, _, _, _ => none
 | k + 1, x0, x3, x4 => if x4 < (x0.length : Int) then (if 0 ≤ x4 then ((laws_toKinded.f ((rd_T87 x0 x4).f0) ((rd_T87 x0 x4).f1)).bind fun bt274 => (if x4 < (x3.length : Int) then (laws_toKindedS.l0 k x0 (x3.set (x4 : Int).toNat (⟨bt274.1, bt274.2⟩ : S91)) (wrap64 (x4 + 1))) else (none))) else (none)) else (some x3)
def laws_toKindedS.f (k : Nat) (l0 : List (S87)) : Option ((List (S91))) := if 0 ≤ (l0.length : Int) then (if ((l0.length : Int) : Int).toNat ≤ 11728124029610 then (laws_toKindedS.l0 k l0 (List.replicate ((l0.length : Int) : Int).toNat z91) 0) else (none)) else (none)
theorem laws_toKindedS.mono_l : ∀ k, (∀ y0 y1 y2, LeO (laws_toKindedS.l0 k y0 y1 y2) (laws_toKindedS.l0 (k + 1) y0 y1 y2))
 | 0 => fun _ _ _ r h => by simp [laws_toKindedS.l0] at h
 | k + 1 => by
  have ih0 := laws_toKindedS.mono_l k
  ·
   intro y0 y1 y2
   unfold laws_toKindedS.l0
   repeat' first
   | (with_reducible exact ih0 _ _ _)
   | (with_reducible exact LeO.refl _)
   | (with_reducible exact LeO.none _)
   | (with_reducible refine LeO.ite ?_ ?_)
   | (with_reducible refine LeO.bind ?_ (fun _ => ?_))
   | exact ih0 _ _ _
   | exact LeO.none _
   | refine LeO.ite ?_ ?_
   | refine LeO.bind ?_ (fun _ => ?_)
theorem laws_toKindedS.mono : ∀ a0 k, LeO (laws_toKindedS.f k a0) (laws_toKindedS.f (k + 1) a0) := by
 intro a0 k
 have ih0 := laws_toKindedS.mono_l k
 unfold laws_toKindedS.f
 repeat' first
   | (with_reducible exact ih0 _ _ _)
   | (with_reducible exact LeO.refl _)
   | (with_reducible exact LeO.none _)
   | (with_reducible refine LeO.ite ?_ ?_)
   | (with_reducible refine LeO.bind ?_ (fun _ => ?_))
   | exact ih0 _ _ _
   | exact LeO.none _
   | refine LeO.ite ?_ ?_
   | refine LeO.bind ?_ (fun _ => ?_)
set_option maxHeartbeats 8000000 in
set_option maxRecDepth 100000 in
theorem laws_toKindedS.calls (k : Nat) (A0 : Option Addr) (c0 : Nat) (l0 : List (S87)) (r : List (S91)) (w : World) (hr0 : Kd.C k87 w A0 l0.length l0) (hc0 : l0.length ≤ c0) (h : laws_toKindedS.f k l0 = some r) :
  Calls Try.prog 39 #[.slice A0 l0.length c0] w fun e w' => ∃ v0_ : Value, e = .returned (v0_) ∧ Kd.R k91 91 w' w.heap.size (fun _ => True) v0_ r ∧ Below w.heap.size w w' := by
 have hu87 := Try.underlying87
 have hu91 := Try.underlying91
 have HR0 := Aside0.mk hr0
 have HC0 := Aside0.mk hc0
 clear hr0 hc0
 have HB := Aside0.mk (Below.refl w.heap.size w)
 have H : (if 0 ≤ (l0.length : Int) then (if ((l0.length : Int) : Int).toNat ≤ 11728124029610 then (laws_toKindedS.l0 k l0 (List.replicate ((l0.length : Int) : Int).toNat z91) 0) else (none)) else (none)) = some r := h
 clear h
 by_cases c2 : 0 ≤ (l0.length : Int)
 ·
  rw [if_pos c2] at H; have c2b0 := eq_true c2
  have c2b1 : decide (0 ≤ (l0.length : Int)) = true := decide_eq_true c2
  clear c2
  by_cases c3 : ((l0.length : Int) : Int).toNat ≤ 11728124029610
  ·
   rw [if_pos c3] at H; have c3b0 := eq_true c3
   have c3b1 : decide (((l0.length : Int) : Int).toNat ≤ 11728124029610) = true := decide_eq_true c3
   clear c3
   obtain ⟨y270, hy270⟩ : ∃ y_ : List (S91), y_ = (List.replicate ((l0.length : Int) : Int).toNat z91) := ⟨_, rfl⟩
   replace H : (laws_toKindedS.l0 k l0 y270 0) = some r := by first | (rw [hy270]; with_reducible exact H) | (have H2_ := (Option.bind_some _ _).symm.trans H; rw [hy270]; with_reducible exact H2_) | (have H2_ := (Option.bind_some _ _).symm.trans H; with_reducible exact H2_) | with_reducible exact H | (rw [hy270]; exact H) | exact H
   have Ny270 := Aside0.mk hy270
   clear hy270
   have H' := Aside0.mk H
   clear H
   go_enter Try.func39, Try.ntmps39
   go_wp2_with (first | ((with_reducible refine gate_dst (N := 7) rfl ?_); refine Kd.R_make k91 _ 91 rfl (N := 7) rfl 38 _ _ rfl (l0.length : Int) rfl rfl Try.underlying38 (.agg #[(.string ⟨#[]⟩), (.int .i64 0)]) 24 info91 rfl (by decide) (by omega) z91 (ok := fun _ => True) (okp := fun _ => True) (k91_mkM _ _ _ z91 ) (fun _ hk => hk) trivial (of_decide_eq_true (by first | (with_reducible assumption) | assumption)) (Nat.le_trans (Nat.mul_le_mul_right _ (of_decide_eq_true (by first | (with_reducible assumption) | assumption) : (l0.length : Int).toNat ≤ 11728124029610)) (by omega)) (Below.refl _ _) (Nat.le_refl _) ?_; intro v271 w4 ho5 hb hg_ hnew_; clear hg_ hnew_; (first | rw [← Ny270.out] at ho5 | (simp only [Int.reduceToNat] at ho5; rw [← Ny270.out] at ho5)); have HO272 := Aside0.mk (Kd.R_lower ho5 (below_size (by exact bw HB.out))); replace HB := bS HB hb; clear hb ho5))
   go_loopg [4] k (fun kq v4 w' => ∃ (x3_1 : List (S91)) (x4_1 : Int), v4 = .int .i64 x4_1 ∧ Aside0 (laws_toKindedS.l0 kq l0 x3_1 x4_1 = some r) ∧ Aside0 (kq ≤ k) ∧ Aside0 (Kd.R k91 91 w' w.heap.size (fun _ => True) v271 x3_1) ∧ Aside0 (Below w.heap.size w w'))
   case atStart => exact ⟨(y270), (0), (by first | rfl | (simp; done) | (simp [*]; done)), H', ⟨Nat.le_refl _⟩, ⟨by exact Kd.xR HO272.out⟩, ⟨by exact bw HB.out⟩⟩
   case round =>
    clear H'
    try clear c2
    try clear c2b0
    try clear c2b1
    try clear p2
    try clear c3
    try clear c3b0
    try clear c3b1
    obtain ⟨x3_1, x4_1, rfl, HA, HK1, HO_3, HB⟩ := hrel
    cases gk with
    | zero => exact absurd HA.out (by simp [laws_toKindedS.l0])
    | succ k1 =>
     have H := HA.out
     clear HA
     simp only [laws_toKindedS.l0] at H
     by_cases c6 : x4_1 < (l0.length : Int)
     ·
      rw [if_pos c6] at H; have c6b0 : decide (x4_1 < (l0.length : Int)) = true := decide_eq_true c6; clear c6
      by_cases c7 : 0 ≤ x4_1
      ·
       rw [if_pos c7] at H; have c7b0 : decide (0 ≤ x4_1) = true := decide_eq_true c7; clear c7
       replace H := Option.bind_eq_some_iff.mp H
       obtain ⟨⟨t274, t275⟩, A80, H⟩ := H
       replace H : (if x4_1 < (x3_1.length : Int) then (laws_toKindedS.l0 k1 l0 (x3_1.set (x4_1 : Int).toNat (⟨t274, t275⟩ : S91)) (wrap64 (x4_1 + 1))) else (none)) = some r := H
       have A8 := Aside0.mk A80
       clear A80
       by_cases c9 : x4_1 < (x3_1.length : Int)
       ·
        rw [if_pos c9] at H; have c9b0 : decide (x4_1 < (x3_1.length : Int)) = true := decide_eq_true c9; clear c9
        obtain ⟨y276, hy276⟩ : ∃ y_ : List (S91), y_ = (x3_1.set (x4_1 : Int).toNat (⟨t274, t275⟩ : S91)) := ⟨_, rfl⟩
        replace H : (laws_toKindedS.l0 k1 l0 y276 (wrap64 (x4_1 + 1))) = some r := by first | (rw [hy276]; with_reducible exact H) | (have H2_ := (Option.bind_some _ _).symm.trans H; rw [hy276]; with_reducible exact H2_) | (have H2_ := (Option.bind_some _ _).symm.trans H; with_reducible exact H2_) | with_reducible exact H | (rw [hy276]; exact H) | exact H
        have Ny276 := Aside0.mk hy276
        clear hy276
        have H' := Aside0.mk H
        clear H
        have p273 : 0 ≤ (x4_1 : Int) := of_decide_eq_true (by first | (with_reducible assumption) | assumption)
        have q273 : x4_1 < (l0.length : Int) := of_decide_eq_true (by first | (with_reducible assumption) | assumption)
        obtain ⟨ad273, e273, hx273_0, hx273_1⟩ := at_T87 HR0.out x4_1 p273 q273
        cases e273
        first | replace hx273_0 := (HB.out.cell (World.block_lt_of_cell? w _ hx273_0)).trans hx273_0 | skip
        first | replace hx273_1 := (HB.out.cell (World.block_lt_of_cell? w _ hx273_1)).trans hx273_1 | skip
        replace p273 := eq_true p273
        replace q273 := eq_true q273
        go_wp2_with (first | ((with_reducible refine gate_callee (f := 67) rfl ?_); refine gl (some 20) Try.func67 #[.agg #[.string ((rd_T87 l0 x4_1).f0), .int .i64 ((rd_T87 l0 x4_1).f1)]] ?_; (with_reducible refine (laws_toKinded.calls ((rd_T87 l0 x4_1).f0) ((rd_T87 l0 x4_1).f1) t274 t275 _ A8.out).mono ?_); rintro e w11 ⟨rfl, hb⟩; refine ⟨_, rfl, ?_⟩; replace HO_3 := Aside0.mk (Kd.R_below (by exact Kd.xR HO_3.out) hb); replace HB := bS HB hb; (try clear hb); (try clear hb2); (try clear hk); (try clear hi); have p10 : 0 ≤ (x4_1 : Int) := of_decide_eq_true (by first | (with_reducible assumption) | assumption); have q10 : (x4_1 : Int) < ((x3_1.length : Int) : Int) := of_decide_eq_true (by first | (with_reducible assumption) | assumption); obtain ⟨go10, co10, eo10, gb10, gl10, cl10, HG10⟩ := Kd.R_form HO_3.out (by omega); (first | cases eo10 | (injection eo10 with ea_ en_ ec_; (first | subst ea_ | (injection ea_ with ea_; subst ea_)); subst ec_; clear en_)); have GB10 := Aside0.mk gb10; have GG10 := Aside0.mk HG10; clear gb10 gl10 HG10; obtain ⟨ce10, hcl10, hM10, hcc10, hfr10⟩ := Kd.R_elem HO_3.out z91 (x4_1 : Int) p10 q10; obtain rfl := k91_openM hM10; have hx10_0 : w11.cell? ⟨go10, (x4_1 : Int).toNat * 2, none⟩ = some (.string ((rd_T91 x3_1 x4_1).f0)) := hcc10 0 _ rfl; have hx10_1 : w11.cell? ⟨go10, (x4_1 : Int).toNat * 2 + 1, none⟩ = some (.int .i64 ((rd_T91 x3_1 x4_1).f1)) := hcc10 1 _ rfl; have hf10_0 : w11.frozen? ⟨go10, (x4_1 : Int).toNat * 2, none⟩ = false := hfr10 0; have hf10_1 : w11.frozen? ⟨go10, (x4_1 : Int).toNat * 2 + 1, none⟩ = false := hfr10 1; clear hcl10 hcc10 hfr10 hM10; replace p10 := eq_true p10; replace q10 := eq_true q10; have HX12 := Aside0.mk (show Kd.R k91 91 w11 w.heap.size (fun _ => True) (.slice (some ⟨go10, 0, none⟩) x3_1.length co10) x3_1 from (by exact Kd.xR HO_3.out)); obtain ⟨ce12, hcl12, hM12, hcc12, hfr12⟩ := Kd.R_elem HX12.out z91 (x4_1 : Int) (of_decide_eq_true (by first | (with_reducible assumption) | assumption)) (by have h_ : (x4_1 : Int) < ((x3_1.length : Int) : Int) := of_decide_eq_true (by first | (with_reducible assumption) | assumption); first | exact h_ | (have e_ := (Kd.R_reads' HO_3.out).1; omega) | simpa using h_); obtain rfl := k91_openM hM12; have HP12 := Kd.R_seg HX12.out (x4_1 : Int) (of_decide_eq_true (by first | (with_reducible assumption) | assumption)) (by have h_ : (x4_1 : Int) < ((x3_1.length : Int) : Int) := of_decide_eq_true (by first | (with_reducible assumption) | assumption); first | exact h_ | (have e_ := (Kd.R_reads' HO_3.out).1; omega) | simpa using h_) (seg := [.string t274, .int .i64 t275]) (j := 0) hcl12 hcc12 (show 2 ≤ 2 from by decide) (x' := (⟨t274, t275⟩ : S91)) (k91_mkM _ _ _ (⟨t274, t275⟩ : S91) ) (fun _ hk => hk); have hx12_0 := hcc12 0 _ rfl; (try simp only [show (k91).sz = 2 from rfl, Nat.mul_one, Nat.add_zero] at hx12_0); have hf12_0 := hfr12 0; (try simp only [show (k91).sz = 2 from rfl, Nat.mul_one, Nat.add_zero] at hf12_0); have hx12_1 := hcc12 1 _ rfl; (try simp only [show (k91).sz = 2 from rfl, Nat.mul_one, Nat.add_zero] at hx12_1); have hf12_1 := hfr12 1; (try simp only [show (k91).sz = 2 from rfl, Nat.mul_one, Nat.add_zero] at hf12_1); clear hcl12 hcc12 hfr12 hM12) | ((with_reducible refine gate_store (t := 91) (p := 21) rfl ?_); refine store_event (t := 91) (p := 21) (v := ?vo_w13) (w1 := ((w11.setCell ⟨go10, (x4_1 : Int).toNat * 2, none⟩ (.string t274)).setCell ⟨go10, (x4_1 : Int).toNat * 2 + 1, none⟩ (.int .i64 t275))) ?hg ?ho ?hn ?hr ?_; (case ho => rfl); (case hg => rfl); (case hn => rfl); (case hr => first | (go_simp; done) | (go_simp; rfl)); intro w13 hw; have hg : w11.grownBy w13 (some go10) := (by rw [hw]; exact HP12.2); have hp_ : Kd.R k91 91 w13 w.heap.size (fun _ => True) (.slice (some ⟨go10, 0, none⟩) x3_1.length co10) y276 := (by rw [hw, Ny276.out]; exact HP12.1); clear HP12; replace HO_3 := Aside0.mk (hp_); replace HB := Aside0.mk ((by rw [hw]; exact below_set (below_set (HB.out) GB10.out) GB10.out : Below w.heap.size w w13)); clear hg hw hp_))
        go_roundg k1
        case measure => have := HK1.out; omega
        case rel => exact ⟨(y276), (wrap64 (x4_1 + 1)), (by first | rfl | (simp; done) | (simp [*]; done)), H', ⟨by have := HK1.out; omega⟩, ⟨by exact Kd.xR HO_3.out⟩, ⟨by exact bw HB.out⟩⟩
       ·
        rw [if_neg c9] at H; exact absurd H (by simp)
      ·
       rw [if_neg c7] at H; exact absurd H (by simp)
     ·
      rw [if_neg c6] at H; have c6b0 : decide (x4_1 < (l0.length : Int)) = false := decide_eq_false c6; clear c6
      obtain rfl := Option.some.inj H
      go_wp2
      go_ret
      exact ⟨_, by first | rfl | (simp [errW_none, errW_some] <;> rfl) | (simp [*, errW_none, errW_some] <;> rfl), by exact Kd.xR HO_3.out, by exact bw HB.out⟩
  ·
   rw [if_neg c3] at H; exact absurd H (by simp)
 ·
  rw [if_neg c2] at H; exact absurd H (by simp)

/-! ### laws_toSchema: function 14 -/
def laws_toSchema.f (k : Nat) (l0_0 : List (S87)) (l0_1 : List (S87)) : Option ((List (S91)) × (List (S91))) := (laws_toKindedS.f k l0_0).bind fun t280 => ((laws_toKindedS.f k l0_1).bind fun t283 => (some (t280, t283)))
theorem laws_toSchema.mono : ∀ a0 a1 k, LeO (laws_toSchema.f k a0 a1) (laws_toSchema.f (k + 1) a0 a1) := by
 intro a0 a1 k
 unfold laws_toSchema.f
 repeat' first
   | (with_reducible exact laws_toKindedS.mono _ _)
   | (with_reducible exact LeO.refl _)
   | (with_reducible exact LeO.none _)
   | (with_reducible refine LeO.ite ?_ ?_)
   | (with_reducible refine LeO.bind ?_ (fun _ => ?_))
   | exact laws_toKindedS.mono _ _
   | exact LeO.none _
   | refine LeO.ite ?_ ?_
   | refine LeO.bind ?_ (fun _ => ?_)
set_option maxHeartbeats 8000000 in
set_option maxRecDepth 100000 in
theorem laws_toSchema.calls (k : Nat) (A0_0 : Option Addr) (c0_0 : Nat) (l0_0 : List (S87)) (A0_1 : Option Addr) (c0_1 : Nat) (l0_1 : List (S87)) (r1 : List (S91)) (r2 : List (S91)) (w : World) (hr0_0 : Kd.C k87 w A0_0 l0_0.length l0_0) (hc0_0 : l0_0.length ≤ c0_0) (hr0_1 : Kd.C k87 w A0_1 l0_1.length l0_1) (hc0_1 : l0_1.length ≤ c0_1) (h : laws_toSchema.f k l0_0 l0_1 = some (r1, r2)) :
  Calls Try.prog 14 #[.agg #[.slice A0_0 l0_0.length c0_0, .slice A0_1 l0_1.length c0_1]] w fun e w' => ∃ v0_ v1_ : Value, e = .returned (.agg #[v0_, v1_]) ∧ Kd.R k91 91 w' w.heap.size (fun k_ => some k_ ≠ (v1_ : Value).ownBlock) v0_ r1 ∧ Kd.R k91 91 w' w.heap.size (fun k_ => some k_ ≠ (v0_ : Value).ownBlock) v1_ r2 ∧ Below w.heap.size w w' := by
 have hu35 := Try.underlying35
 have hu40 := Try.underlying40
 have HR0_0 := Aside0.mk hr0_0
 have HC0_0 := Aside0.mk hc0_0
 clear hr0_0 hc0_0
 have HR0_1 := Aside0.mk hr0_1
 have HC0_1 := Aside0.mk hc0_1
 clear hr0_1 hc0_1
 have HB := Aside0.mk (Below.refl w.heap.size w)
 have H : ((laws_toKindedS.f k l0_0).bind fun t280 => ((laws_toKindedS.f k l0_1).bind fun t283 => (some (t280, t283)))) = some (r1, r2) := h
 clear h
 replace H := Option.bind_eq_some_iff.mp H
 obtain ⟨t280, A20, H⟩ := H
 replace H : ((laws_toKindedS.f k l0_1).bind fun t283 => (some (t280, t283))) = some (r1, r2) := H
 have A2 := Aside0.mk A20
 clear A20
 replace H := Option.bind_eq_some_iff.mp H
 obtain ⟨t283, A30, H⟩ := H
 replace H : (some (t280, t283)) = some (r1, r2) := H
 have A3 := Aside0.mk A30
 clear A30
 simp only [Option.some.injEq, Prod.mk.injEq] at H
 obtain ⟨rfl, rfl⟩ := H
 go_enter Try.func14, Try.ntmps14
 go_wp2_with (first | ((with_reducible refine gate_dst (N := 1) rfl ?_); refine bx 1 #[.slice A0_0 l0_0.length c0_0, .slice A0_1 l0_1.length c0_1] 35 ?_; intro gb277 hg w4 hbox hb; have BK277 := Aside0.mk (hbox); have GW277 := gwB HB hg; have GE277 := gwB HB hg; replace HB := bS HB hb; clear hb hbox hg) | ((with_reducible refine gate_dst (N := 2) rfl ?_); refine bx 2 #[.slice none 0 0, .slice none 0 0] 40 ?_; intro gb278 hg w5 hbox hb; have BK278 := Aside0.mk (hbox); have GW278 := gwB HB hg; have GE278 := gwB HB hg; replace HB := bS HB hb; have NB277_278 := nbL BK277 hg; have NB278_277 := nbR BK277 hg; replace BK277 := bB BK277 hb; clear hb hbox hg) | ((with_reducible refine gate_dst (N := 3) rfl ?_); refine bx 3 #[.slice none 0 0, .slice none 0 0] 40 ?_; intro gb279 hg w6 hbox hb; have BK279 := Aside0.mk (hbox); have GW279 := gwB HB hg; have GE279 := gwB HB hg; replace HB := bS HB hb; have NB277_279 := nbL BK277 hg; have NB279_277 := nbR BK277 hg; replace BK277 := bB BK277 hb; have NB278_279 := nbL BK278 hg; have NB279_278 := nbR BK278 hg; replace BK278 := bB BK278 hb; clear hb hbox hg; have hnb7 := NB277_278.out; have hnc7 := NB278_277.out; have hnb8 := NB277_279.out; have hnc8 := NB279_277.out; obtain ⟨hcz9_0, hcz9_1⟩ := cs2 BK277.out; obtain ⟨hfz9_0, hfz9_1⟩ := fz2 BK277.out) | ((with_reducible refine gate_callee (f := 39) rfl ?_); refine gl (some 6) Try.func39 #[.slice A0_0 l0_0.length c0_0] ?_; (with_reducible refine (laws_toKindedS.calls k _ _ l0_0 t280 _ ?side1 ?side2 A2.out).mono ?_); (case side1 => repeat (first | exact (Kd.C_below HR0_0.out HB.out) | (with_reducible refine Kd.C_alloc ?_ _) | (with_reducible refine Kd.C_drewN ?_ _) | (with_reducible refine Kd.C_drew ?_))); (case side2 => exact HC0_0.out); rintro e w10 ⟨v281, rfl, ho0, hb⟩; refine ⟨_, rfl, ?_⟩; have HO282 := Aside0.mk (Kd.R_lower ho0 (below_size (by exact bw HB.out))); replace BK277 := bB BK277 hb; replace BK278 := bB BK278 hb; replace BK279 := bB BK279 hb; replace HB := bS HB hb; (try clear hb); (try clear hb2); (try clear hk); (try clear hi); (try clear ho0); obtain ⟨Ao11, co11, eo11⟩ := Kd.R_slice HO282.out; subst eo11; have hnb12 := NB279_278.out; have hnc12 := NB278_279.out; obtain ⟨hcz13_0, hcz13_1⟩ := cs2 BK279.out; obtain ⟨hfz13_0, hfz13_1⟩ := fz2 BK279.out; obtain ⟨hcz14_0, hcz14_1⟩ := cs2 BK277.out; obtain ⟨hfz14_0, hfz14_1⟩ := fz2 BK277.out) | ((with_reducible refine gate_callee (f := 39) rfl ?_); refine gl (some 10) Try.func39 #[.slice A0_1 l0_1.length c0_1] ?_; (with_reducible refine (laws_toKindedS.calls k _ _ l0_1 t283 _ ?side1 ?side2 A3.out).mono ?_); (case side1 => exact Kd.C_below HR0_1.out (by exact bw HB.out)); (case side2 => exact HC0_1.out); rintro e w15 ⟨v284, rfl, ho0, hb⟩; refine ⟨_, rfl, ?_⟩; have HO285 := Aside0.mk (Kd.R_lower (Kd.R_new' ho0 (Kd.R_lt (by (with_reducible repeat (first | apply Kd.R_alloc | apply Kd.R_drewN | apply Kd.R_drew)); exact (Kd.R_mono (Kd.R_far (p := ⟨gb279, 0, none⟩) (Kd.R_types HO282.out BK279.out (by decide)) (fun _ hk => hk.2) (.slice Ao11 t280.length co11)) (fun _ h_ => h_.1))))) (below_size (by exact bw HB.out))); replace HO282 := Aside0.mk (Kd.R_elder' (by (with_reducible repeat (first | apply Kd.R_alloc | apply Kd.R_drewN | apply Kd.R_drew)); exact (Kd.R_mono (Kd.R_far (p := ⟨gb279, 0, none⟩) (Kd.R_types HO282.out BK279.out (by decide)) (fun _ hk => hk.2) (.slice Ao11 t280.length co11)) (fun _ h_ => h_.1))) (Kd.R_base ho0) hb); replace BK277 := Aside0.mk (blk_below (g := gb277) (o := .cells #[.slice A0_0 l0_0.length c0_0, .slice A0_1 l0_1.length c0_1] 35 (0, 0)) (bo BK277) hb); replace BK278 := Aside0.mk (blk_below (g := gb278) (o := .cells #[.slice none 0 0, .slice none 0 0] 40 (0, 0)) (bo BK278) hb); replace BK279 := Aside0.mk (blk_below (g := gb279) (o := .cells #[.slice Ao11 t280.length co11, .slice none 0 0] 40 (0, 0)) (bp BK279) hb); replace HB := bS HB hb; (try clear hb); (try clear hb2); (try clear hk); (try clear hi); (try clear ho0); obtain ⟨Ao16, co16, eo16⟩ := Kd.R_slice HO285.out; subst eo16; obtain ⟨hcz17_0, hcz17_1⟩ := cs2 BK279.out; obtain ⟨hfz17_0, hfz17_1⟩ := fz2 BK279.out; obtain ⟨hcz18_0, hcz18_1⟩ := cs2 BK278.out; obtain ⟨hfz18_0, hfz18_1⟩ := fz2 BK278.out))
 refine bodyPost_ret (results_cell_row rfl _ _ gb278 40 #[.slice Ao11 t280.length co11, .slice Ao16 t283.length co16] (0, 0) _ rfl (bp BK278) Try.underlying40 rfl (by kernel_rfl)) rfl ?_
 exact ⟨_, _, by first | rfl | (simp [errW_none, errW_some] <;> rfl) | (simp [*, errW_none, errW_some] <;> rfl), by (with_reducible repeat (first | apply Kd.R_alloc | apply Kd.R_drewN | apply Kd.R_drew)); exact Kd.R_mono (Kd.R_far (p := ⟨gb278, 1, none⟩) (Kd.R_far (p := ⟨gb278, 0, none⟩) (Kd.R_far (p := ⟨gb279, 1, none⟩) (Kd.R_types (Kd.R_types HO282.out BK279.out (by decide)) BK278.out (by decide)) (fun _ hk => hk.1.2) (.slice Ao16 t283.length co16)) (fun _ hk => hk.2) (.slice Ao11 t280.length co11)) (fun _ hk => hk.2) (.slice Ao16 t283.length co16)) (fun _ hk => hk.1.1.2), by (with_reducible repeat (first | apply Kd.R_alloc | apply Kd.R_drewN | apply Kd.R_drew)); exact Kd.R_mono (Kd.R_far (p := ⟨gb278, 1, none⟩) (Kd.R_far (p := ⟨gb278, 0, none⟩) (Kd.R_far (p := ⟨gb279, 1, none⟩) (Kd.R_types (Kd.R_types HO285.out BK279.out (by decide)) BK278.out (by decide)) (fun _ hk => hk.1.2) (.slice Ao16 t283.length co16)) (fun _ hk => hk.2) (.slice Ao11 t280.length co11)) (fun _ hk => hk.2) (.slice Ao16 t283.length co16)) (fun _ hk => hk.1.1.2), by exact bw HB.out⟩

/-! ### impl_kindIn: function 69 -/
def impl_kindIn.l0 : Nat → ByteArray → List (S91) → Int → Int → Option (Int)
 | 0, _, _, _, _ => none
 | k + 1, x1, x7, x8, x9 => if x9 < x8 then (if 0 ≤ x9 then (if x9 < (x7.length : Int) then (if ((rd_T91 x7 x9).f0).toList = x1.toList then (some ((rd_T91 x7 x9).f1)) else (impl_kindIn.l0 k x1 x7 x8 (wrap64 (x9 + 1)))) else (none)) else (none)) else (some 0)
def impl_kindIn.f (k : Nat) (l0 : List (S91)) (a1 : ByteArray) : Option (Int) := impl_kindIn.l0 k a1 l0 (l0.length : Int) 0
theorem impl_kindIn.mono_l : ∀ k, (∀ y0 y1 y2 y3, LeO (impl_kindIn.l0 k y0 y1 y2 y3) (impl_kindIn.l0 (k + 1) y0 y1 y2 y3))
 | 0 => fun _ _ _ _ r h => by simp [impl_kindIn.l0] at h
 | k + 1 => by
  have ih0 := impl_kindIn.mono_l k
  ·
   intro y0 y1 y2 y3
   unfold impl_kindIn.l0
   repeat' first
   | (with_reducible exact ih0 _ _ _ _)
   | (with_reducible exact LeO.refl _)
   | (with_reducible exact LeO.none _)
   | (with_reducible refine LeO.ite ?_ ?_)
   | (with_reducible refine LeO.bind ?_ (fun _ => ?_))
   | exact ih0 _ _ _ _
   | exact LeO.none _
   | refine LeO.ite ?_ ?_
   | refine LeO.bind ?_ (fun _ => ?_)
theorem impl_kindIn.mono : ∀ a0 a1 k, LeO (impl_kindIn.f k a0 a1) (impl_kindIn.f (k + 1) a0 a1) := by
 intro a0 a1 k
 have ih0 := impl_kindIn.mono_l k
 unfold impl_kindIn.f
 repeat' first
   | (with_reducible exact ih0 _ _ _ _)
   | (with_reducible exact LeO.refl _)
   | (with_reducible exact LeO.none _)
   | (with_reducible refine LeO.ite ?_ ?_)
   | (with_reducible refine LeO.bind ?_ (fun _ => ?_))
   | exact ih0 _ _ _ _
   | exact LeO.none _
   | refine LeO.ite ?_ ?_
   | refine LeO.bind ?_ (fun _ => ?_)
set_option maxHeartbeats 8000000 in
set_option maxRecDepth 100000 in
theorem impl_kindIn.calls (k : Nat) (A0 : Option Addr) (c0 : Nat) (l0 : List (S91)) (a1 : ByteArray) (r : Int) (w : World) (hr0 : Kd.C k91 w A0 l0.length l0) (hc0 : l0.length ≤ c0) (h : impl_kindIn.f k l0 a1 = some r) :
  Calls Try.prog 69 #[.slice A0 l0.length c0, .string a1] w fun e w' => e = .returned (.int .i64 r) ∧ Below w.heap.size w w' := by
 have hu91 := Try.underlying91
 have HR0 := Aside0.mk hr0
 have HC0 := Aside0.mk hc0
 clear hr0 hc0
 have HB := Aside0.mk (Below.refl w.heap.size w)
 have H : (impl_kindIn.l0 k a1 l0 (l0.length : Int) 0) = some r := h
 clear h
 have H' := Aside0.mk H
 clear H
 go_enter Try.func69, Try.ntmps69
 go_wp2
 go_loopg [9] k (fun kq v9 w' => ∃ (x9_1 : Int), v9 = .int .i64 x9_1 ∧ Aside0 (impl_kindIn.l0 kq a1 l0 (l0.length : Int) x9_1 = some r) ∧ Aside0 (kq ≤ k) ∧ Aside0 (Below w.heap.size w w'))
 case atStart => exact ⟨(0), (by first | rfl | (simp; done) | (simp [*]; done)), H', ⟨Nat.le_refl _⟩, ⟨by exact bw HB.out⟩⟩
 case round =>
  clear H'
  try clear p2
  obtain ⟨x9_1, rfl, HA, HK1, HB⟩ := hrel
  cases gk with
  | zero => exact absurd HA.out (by simp [impl_kindIn.l0])
  | succ k1 =>
   have H := HA.out
   clear HA
   simp only [impl_kindIn.l0] at H
   by_cases c3 : x9_1 < (l0.length : Int)
   ·
    rw [if_pos c3] at H; have c3b0 : decide (x9_1 < (l0.length : Int)) = true := decide_eq_true c3; clear c3
    by_cases c4 : 0 ≤ x9_1
    ·
     rw [if_pos c4] at H; have c4b0 : decide (0 ≤ x9_1) = true := decide_eq_true c4; clear c4
     by_cases c5 : x9_1 < (l0.length : Int)
     ·
      rw [if_pos c5] at H; have c5b0 : decide (x9_1 < (l0.length : Int)) = true := decide_eq_true c5; clear c5
      by_cases c6 : ((rd_T91 l0 x9_1).f0).toList = a1.toList
      ·
       rw [if_pos c6] at H; obtain ⟨c6b0, c6b1⟩ := eqY c6; clear c6
       obtain rfl := Option.some.inj H
       have p286 : 0 ≤ (x9_1 : Int) := of_decide_eq_true (by first | (with_reducible assumption) | assumption)
       have q286 : x9_1 < (l0.length : Int) := of_decide_eq_true (by first | (with_reducible assumption) | assumption)
       obtain ⟨ad286, e286, hx286_0, hx286_1⟩ := at_T91 HR0.out x9_1 p286 q286
       cases e286
       first | replace hx286_0 := (HB.out.cell (World.block_lt_of_cell? w _ hx286_0)).trans hx286_0 | skip
       first | replace hx286_1 := (HB.out.cell (World.block_lt_of_cell? w _ hx286_1)).trans hx286_1 | skip
       replace p286 := eq_true p286
       replace q286 := eq_true q286
       go_wp2_with (first | ((with_reducible refine gate_dst (N := 6) rfl ?_); refine bx 6 #[.string (⟨#[]⟩ : ByteArray), .int .i64 0] 91 ?_; intro gb287 hg w7 hbox hb; have BK287 := Aside0.mk (hbox); have GW287 := gwB HB hg; have GE287 := gwB HB hg; replace HB := bS HB hb; clear hb hbox hg; obtain ⟨hcz8_0, hcz8_1⟩ := cs2 BK287.out; obtain ⟨hfz8_0, hfz8_1⟩ := fz2 BK287.out))
       go_ret
       exact ⟨by first | rfl | (simp [errW_none, errW_some] <;> rfl) | (simp [*, errW_none, errW_some] <;> rfl), by exact bw HB.out⟩
      ·
       rw [if_neg c6] at H; obtain ⟨c6b0, c6b1⟩ := eqN c6
       have H' := Aside0.mk H
       clear H
       have p286 : 0 ≤ (x9_1 : Int) := of_decide_eq_true (by first | (with_reducible assumption) | assumption)
       have q286 : x9_1 < (l0.length : Int) := of_decide_eq_true (by first | (with_reducible assumption) | assumption)
       obtain ⟨ad286, e286, hx286_0, hx286_1⟩ := at_T91 HR0.out x9_1 p286 q286
       cases e286
       first | replace hx286_0 := (HB.out.cell (World.block_lt_of_cell? w _ hx286_0)).trans hx286_0 | skip
       first | replace hx286_1 := (HB.out.cell (World.block_lt_of_cell? w _ hx286_1)).trans hx286_1 | skip
       replace p286 := eq_true p286
       replace q286 := eq_true q286
       go_wp2_with (first | ((with_reducible refine gate_dst (N := 6) rfl ?_); refine bx 6 #[.string (⟨#[]⟩ : ByteArray), .int .i64 0] 91 ?_; intro gb287 hg w9 hbox hb; have BK287 := Aside0.mk (hbox); have GW287 := gwB HB hg; have GE287 := gwB HB hg; replace HB := bS HB hb; clear hb hbox hg; obtain ⟨hcz10_0, hcz10_1⟩ := cs2 BK287.out; obtain ⟨hfz10_0, hfz10_1⟩ := fz2 BK287.out))
       go_roundg k1
       case measure => have := HK1.out; omega
       case rel => exact ⟨(wrap64 (x9_1 + 1)), (by first | rfl | (simp; done) | (simp [*]; done)), H', ⟨by have := HK1.out; omega⟩, ⟨by exact bw HB.out⟩⟩
     ·
      rw [if_neg c5] at H; exact absurd H (by simp)
    ·
     rw [if_neg c4] at H; exact absurd H (by simp)
   ·
    rw [if_neg c3] at H; have c3b0 : decide (x9_1 < (l0.length : Int)) = false := decide_eq_false c3; clear c3
    obtain rfl := Option.some.inj H
    go_wp2
    go_ret
    exact ⟨by first | rfl | (simp [errW_none, errW_some] <;> rfl) | (simp [*, errW_none, errW_some] <;> rfl), by exact bw HB.out⟩

end Go.Proofs.Ytbbbgochcfccgaa.P
