-- Written by a program of this session (wip/tool).
import Derived.Test.YtipoeghieeafjaaPx0
import Derived.Test.YtipoeghieeafjaaPx1036
import Derived.Test.YtipoeghieeafjaaPx1039
import Derived.Test.YtipoeghieeafjaaPx1074
namespace Go.Proofs.Ytipoeghieeafjaa.P
open Go.RowKit Go.Proofs.YtipoeghieeafjaaW.PrintWords Go.Proofs.YtipoeghieeafjaaW.PrintLast Go.Proofs.YtipoeghieeafjaaW.PrintMore
attribute [local go_sem] max2_int min2_int max_two min_two max_three min_three max_four min_four   -- for this text's walks alone
set_option linter.unusedVariables false
set_option linter.unusedSimpArgs false

/-! ### spec_InScope: function 11 -/
def spec_InScope.f (k : Nat) (l0 : List (S79)) (a1_0 : Int) (a1_1 : Int) (a1_2 : Int) (l1_3 : List (S103)) (a2_0 : ByteArray) (a2_1 : Bool) (a2_2 : Int) (a2_3 : Int) (a2_4 : Int) (a2_5 : Int) (a2_6 : Int) (a2_7 : ByteArray) (l2_8 : List (S43)) : Option (Bool) := (spec_RequestValid.f k l0 a1_0 a1_1 a1_2 l1_3).bind fun t182 => (if t182 = true then ((spec_PolicyValid.f k a2_0 a2_1 a2_2 a2_3 a2_4 a2_5 a2_6 a2_7 l2_8).bind fun t183 => (if t183 = true then ((spec_l12Scope.f k l0 a1_0 a2_2).bind fun t184 => (if t184 = true then ((spec_l12Scope.f k l0 a1_2 a2_3).bind fun t185 => (if t185 = true then ((spec_l12Act.f k a2_4 a1_1).bind fun t186 => (some t186)) else (some false))) else (some false))) else (some false))) else (some false))
theorem spec_InScope.mono : ∀ a0 a1 a2 a3 a4 a5 a6 a7 a8 a9 a10 a11 a12 a13 k, LeO (spec_InScope.f k a0 a1 a2 a3 a4 a5 a6 a7 a8 a9 a10 a11 a12 a13) (spec_InScope.f (k + 1) a0 a1 a2 a3 a4 a5 a6 a7 a8 a9 a10 a11 a12 a13) := by
 intro a0 a1 a2 a3 a4 a5 a6 a7 a8 a9 a10 a11 a12 a13 k
 unfold spec_InScope.f
 repeat' first
   | (with_reducible exact spec_PolicyValid.mono _ _ _ _ _ _ _ _ _ _)
   | (with_reducible exact spec_RequestValid.mono _ _ _ _ _ _)
   | (with_reducible exact spec_l12Act.mono _ _ _)
   | (with_reducible exact spec_l12Scope.mono _ _ _ _)
   | (with_reducible exact LeO.refl _)
   | (with_reducible exact LeO.none _)
   | (with_reducible refine LeO.ite ?_ ?_)
   | (with_reducible refine LeO.bind ?_ (fun _ => ?_))
   | exact spec_PolicyValid.mono _ _ _ _ _ _ _ _ _ _
   | exact spec_RequestValid.mono _ _ _ _ _ _
   | exact spec_l12Act.mono _ _ _
   | exact spec_l12Scope.mono _ _ _ _
   | exact LeO.none _
   | refine LeO.ite ?_ ?_
   | refine LeO.bind ?_ (fun _ => ?_)
set_option maxHeartbeats 8000000 in
set_option maxRecDepth 100000 in
theorem spec_InScope.calls (k : Nat) (A0 : Option Addr) (c0 : Nat) (l0 : List (S79)) (a1_0 : Int) (a1_1 : Int) (a1_2 : Int) (A1_3 : Option Addr) (c1_3 : Nat) (l1_3 : List (S103)) (a2_0 : ByteArray) (a2_1 : Bool) (a2_2 : Int) (a2_3 : Int) (a2_4 : Int) (a2_5 : Int) (a2_6 : Int) (a2_7 : ByteArray) (A2_8 : Option Addr) (c2_8 : Nat) (l2_8 : List (S43)) (r : Bool) (w : World) (hr0 : Kd.C k79 w A0 l0.length l0) (hc0 : l0.length ≤ c0) (hr1_3 : Kd.C k103 w A1_3 l1_3.length l1_3) (hc1_3 : l1_3.length ≤ c1_3) (hr2_8 : Kd.C k43 w A2_8 l2_8.length l2_8) (hc2_8 : l2_8.length ≤ c2_8) (h : spec_InScope.f k l0 a1_0 a1_1 a1_2 l1_3 a2_0 a2_1 a2_2 a2_3 a2_4 a2_5 a2_6 a2_7 l2_8 = some r) :
  Calls Try.prog 11 #[.slice A0 l0.length c0, .agg #[.int .i64 a1_0, .int .i64 a1_1, .int .i64 a1_2, .slice A1_3 l1_3.length c1_3], .agg #[.string a2_0, .bool a2_1, .int .i64 a2_2, .int .i64 a2_3, .int .i64 a2_4, .int .i64 a2_5, .int .i64 a2_6, .string a2_7, .slice A2_8 l2_8.length c2_8]] w fun e w' => e = .returned (.bool r) ∧ Below w.heap.size w w' := by
 have hu39 := Try.underlying39
 have hu45 := Try.underlying45
 have HR0 := Aside0.mk hr0
 have HC0 := Aside0.mk hc0
 clear hr0 hc0
 have HR1_3 := Aside0.mk hr1_3
 have HC1_3 := Aside0.mk hc1_3
 clear hr1_3 hc1_3
 have HR2_8 := Aside0.mk hr2_8
 have HC2_8 := Aside0.mk hc2_8
 clear hr2_8 hc2_8
 have HB := Aside0.mk (Below.refl w.heap.size w)
 have H : ((spec_RequestValid.f k l0 a1_0 a1_1 a1_2 l1_3).bind fun t182 => (if t182 = true then ((spec_PolicyValid.f k a2_0 a2_1 a2_2 a2_3 a2_4 a2_5 a2_6 a2_7 l2_8).bind fun t183 => (if t183 = true then ((spec_l12Scope.f k l0 a1_0 a2_2).bind fun t184 => (if t184 = true then ((spec_l12Scope.f k l0 a1_2 a2_3).bind fun t185 => (if t185 = true then ((spec_l12Act.f k a2_4 a1_1).bind fun t186 => (some t186)) else (some false))) else (some false))) else (some false))) else (some false))) = some r := h
 clear h
 replace H := Option.bind_eq_some_iff.mp H
 obtain ⟨t182, A40, H⟩ := H
 replace H : (if t182 = true then ((spec_PolicyValid.f k a2_0 a2_1 a2_2 a2_3 a2_4 a2_5 a2_6 a2_7 l2_8).bind fun t183 => (if t183 = true then ((spec_l12Scope.f k l0 a1_0 a2_2).bind fun t184 => (if t184 = true then ((spec_l12Scope.f k l0 a1_2 a2_3).bind fun t185 => (if t185 = true then ((spec_l12Act.f k a2_4 a1_1).bind fun t186 => (some t186)) else (some false))) else (some false))) else (some false))) else (some false)) = some r := H
 have A4 := Aside0.mk A40
 clear A40
 by_cases c5 : t182 = true
 ·
  subst c5
  have H1 : ((spec_PolicyValid.f k a2_0 a2_1 a2_2 a2_3 a2_4 a2_5 a2_6 a2_7 l2_8).bind fun t183 => (if t183 = true then ((spec_l12Scope.f k l0 a1_0 a2_2).bind fun t184 => (if t184 = true then ((spec_l12Scope.f k l0 a1_2 a2_3).bind fun t185 => (if t185 = true then ((spec_l12Act.f k a2_4 a1_1).bind fun t186 => (some t186)) else (some false))) else (some false))) else (some false))) = some r := by rw [if_pos rfl] at H; exact H
  clear H
  have H := H1
  clear H1
  replace H := Option.bind_eq_some_iff.mp H
  obtain ⟨t183, A60, H⟩ := H
  replace H : (if t183 = true then ((spec_l12Scope.f k l0 a1_0 a2_2).bind fun t184 => (if t184 = true then ((spec_l12Scope.f k l0 a1_2 a2_3).bind fun t185 => (if t185 = true then ((spec_l12Act.f k a2_4 a1_1).bind fun t186 => (some t186)) else (some false))) else (some false))) else (some false)) = some r := H
  have A6 := Aside0.mk A60
  clear A60
  by_cases c7 : t183 = true
  ·
   subst c7
   have H1 : ((spec_l12Scope.f k l0 a1_0 a2_2).bind fun t184 => (if t184 = true then ((spec_l12Scope.f k l0 a1_2 a2_3).bind fun t185 => (if t185 = true then ((spec_l12Act.f k a2_4 a1_1).bind fun t186 => (some t186)) else (some false))) else (some false))) = some r := by rw [if_pos rfl] at H; exact H
   clear H
   have H := H1
   clear H1
   replace H := Option.bind_eq_some_iff.mp H
   obtain ⟨t184, A80, H⟩ := H
   replace H : (if t184 = true then ((spec_l12Scope.f k l0 a1_2 a2_3).bind fun t185 => (if t185 = true then ((spec_l12Act.f k a2_4 a1_1).bind fun t186 => (some t186)) else (some false))) else (some false)) = some r := H
   have A8 := Aside0.mk A80
   clear A80
   by_cases c9 : t184 = true
   ·
    subst c9
    have H1 : ((spec_l12Scope.f k l0 a1_2 a2_3).bind fun t185 => (if t185 = true then ((spec_l12Act.f k a2_4 a1_1).bind fun t186 => (some t186)) else (some false))) = some r := by rw [if_pos rfl] at H; exact H
    clear H
    have H := H1
    clear H1
    replace H := Option.bind_eq_some_iff.mp H
    obtain ⟨t185, A100, H⟩ := H
    replace H : (if t185 = true then ((spec_l12Act.f k a2_4 a1_1).bind fun t186 => (some t186)) else (some false)) = some r := H
    have A10 := Aside0.mk A100
    clear A100
    by_cases c11 : t185 = true
    ·
     subst c11
     have H1 : ((spec_l12Act.f k a2_4 a1_1).bind fun t186 => (some t186)) = some r := by rw [if_pos rfl] at H; exact H
     clear H
     have H := H1
     clear H1
     replace H := Option.bind_eq_some_iff.mp H
     obtain ⟨t186, A120, H⟩ := H
     replace H : (some t186) = some r := H
     have A12 := Aside0.mk A120
     clear A120
     obtain rfl := Option.some.inj H
     go_enter Try.func11, Try.ntmps11
     go_wp2_with (first | ((with_reducible refine gate_dst (N := 4) rfl ?_); refine bx 4 #[.int .i64 a1_0, .int .i64 a1_1, .int .i64 a1_2, .slice A1_3 l1_3.length c1_3] 39 ?_; intro gb180 hg w13 hbox hb; have BK180 := Aside0.mk (hbox); have GW180 := gwB HB hg; have GE180 := gwB HB hg; replace HB := bS HB hb; clear hb hbox hg) | ((with_reducible refine gate_dst (N := 5) rfl ?_); refine bx 5 #[.string a2_0, .bool a2_1, .int .i64 a2_2, .int .i64 a2_3, .int .i64 a2_4, .int .i64 a2_5, .int .i64 a2_6, .string a2_7, .slice A2_8 l2_8.length c2_8] 45 ?_; intro gb181 hg w14 hbox hb; have BK181 := Aside0.mk (hbox); have GW181 := gwB HB hg; have GE181 := gwB HB hg; replace HB := bS HB hb; have NB180_181 := nbL BK180 hg; have NB181_180 := nbR BK180 hg; replace BK180 := bB BK180 hb; clear hb hbox hg; have hnb15 := NB180_181.out; have hnc15 := NB181_180.out; obtain ⟨hcz16_0, hcz16_1, hcz16_2, hcz16_3⟩ := cs4 BK180.out; obtain ⟨hfz16_0, hfz16_1, hfz16_2, hfz16_3⟩ := fz4 BK180.out) | ((with_reducible refine gate_callee (f := 36) rfl ?_); refine gl (some 9) Try.func36 #[.slice A0 l0.length c0, .agg #[.int .i64 a1_0, .int .i64 a1_1, .int .i64 a1_2, .slice A1_3 l1_3.length c1_3]] ?_; (with_reducible refine (spec_RequestValid.calls k _ _ l0 a1_0 a1_1 a1_2 _ _ l1_3 true _ ?side1 ?side2 ?side3 ?side4 A4.out).mono ?_); (case side1 => repeat (first | exact (Kd.C_below HR0.out HB.out) | (with_reducible refine Kd.C_alloc ?_ _) | (with_reducible refine Kd.C_drewN ?_ _) | (with_reducible refine Kd.C_drew ?_))); (case side2 => exact HC0.out); (case side3 => repeat (first | exact (Kd.C_below HR1_3.out HB.out) | (with_reducible refine Kd.C_alloc ?_ _) | (with_reducible refine Kd.C_drewN ?_ _) | (with_reducible refine Kd.C_drew ?_))); (case side4 => exact HC1_3.out); rintro e w17 ⟨rfl, hb⟩; refine ⟨_, rfl, ?_⟩; replace BK180 := bB BK180 hb; replace BK181 := bB BK181 hb; replace HB := bS HB hb; (try clear hb); (try clear hb2); (try clear hk); (try clear hi); obtain ⟨hcz18_0, hcz18_1, hcz18_2, hcz18_3, hcz18_4, hcz18_5, hcz18_6, hcz18_7, hcz18_8⟩ := cs9 BK181.out; obtain ⟨hfz18_0, hfz18_1, hfz18_2, hfz18_3, hfz18_4, hfz18_5, hfz18_6, hfz18_7, hfz18_8⟩ := fz9 BK181.out) | (go_at_call 37; (with_reducible refine (spec_PolicyValid.calls k a2_0 a2_1 a2_2 a2_3 a2_4 a2_5 a2_6 a2_7 _ _ l2_8 true _ ?side1 ?side2 A6.out).mono ?_); (case side1 => repeat (first | exact (Kd.C_below HR2_8.out HB.out) | (with_reducible refine Kd.C_alloc ?_ _) | (with_reducible refine Kd.C_drewN ?_ _) | (with_reducible refine Kd.C_drew ?_))); (case side2 => exact HC2_8.out); rintro e w19 ⟨rfl, hb⟩; have n0_ := bB BK180 hb; have n1_ := bB BK181 hb; have n2_ := bS HB hb; clear BK180; clear BK181; clear HB; have BK180 := n0_; have BK181 := n1_; have HB := n2_; clear n0_ n1_ n2_; (try clear hb); (try clear hb2); (try clear hk); (try clear hi); obtain ⟨hcz20_0, hcz20_1, hcz20_2, hcz20_3⟩ := cs4 BK180.out; obtain ⟨hfz20_0, hfz20_1, hfz20_2, hfz20_3⟩ := fz4 BK180.out; obtain ⟨hcz21_0, hcz21_1, hcz21_2, hcz21_3, hcz21_4, hcz21_5, hcz21_6, hcz21_7, hcz21_8⟩ := cs9 BK181.out; obtain ⟨hfz21_0, hfz21_1, hfz21_2, hfz21_3, hfz21_4, hfz21_5, hfz21_6, hfz21_7, hfz21_8⟩ := fz9 BK181.out) | (go_at_call 38; (with_reducible refine (spec_l12Scope.calls k _ _ l0 a1_0 a2_2 true _ ?side1 ?side2 A8.out).mono ?_); (case side1 => repeat (first | exact (Kd.C_below HR0.out HB.out) | (with_reducible refine Kd.C_alloc ?_ _) | (with_reducible refine Kd.C_drewN ?_ _) | (with_reducible refine Kd.C_drew ?_))); (case side2 => exact HC0.out); rintro e w' ⟨rfl, ⟨nd, rfl⟩⟩) | (go_at_call 38; (with_reducible refine (spec_l12Scope.calls k _ _ l0 a1_2 a2_3 true _ ?side1 ?side2 A10.out).mono ?_); (case side1 => repeat (first | exact (Kd.C_below HR0.out (by exact bw HB.out)) | exact HR0.out | (with_reducible refine Kd.C_alloc ?_ _) | (with_reducible refine Kd.C_drewN ?_ _) | (with_reducible refine Kd.C_drew ?_))); (case side2 => exact HC0.out); rintro e w' ⟨rfl, ⟨nd, rfl⟩⟩) | (go_at_call 39; (with_reducible refine (spec_l12Act.calls k a2_4 a1_1 t186 _ A12.out).mono ?_); rintro e w' ⟨rfl, ⟨nd, rfl⟩⟩))
     go_ret
     exact ⟨by first | rfl | (simp [errW_none, errW_some] <;> rfl) | (simp [*, errW_none, errW_some] <;> rfl), by exact bw HB.out⟩
    ·
     replace c11 := Bool.eq_false_iff.mpr c11
     subst c11
     have H1 : (some false) = some r := by rw [if_neg (show ¬ (false = true) by decide)] at H; exact H
     clear H
     have H := H1
     clear H1
     obtain rfl := Option.some.inj H
     go_enter Try.func11, Try.ntmps11
     go_wp2_with (first | ((with_reducible refine gate_dst (N := 4) rfl ?_); refine bx 4 #[.int .i64 a1_0, .int .i64 a1_1, .int .i64 a1_2, .slice A1_3 l1_3.length c1_3] 39 ?_; intro gb180 hg w22 hbox hb; have BK180 := Aside0.mk (hbox); have GW180 := gwB HB hg; have GE180 := gwB HB hg; replace HB := bS HB hb; clear hb hbox hg) | ((with_reducible refine gate_dst (N := 5) rfl ?_); refine bx 5 #[.string a2_0, .bool a2_1, .int .i64 a2_2, .int .i64 a2_3, .int .i64 a2_4, .int .i64 a2_5, .int .i64 a2_6, .string a2_7, .slice A2_8 l2_8.length c2_8] 45 ?_; intro gb181 hg w23 hbox hb; have BK181 := Aside0.mk (hbox); have GW181 := gwB HB hg; have GE181 := gwB HB hg; replace HB := bS HB hb; have NB180_181 := nbL BK180 hg; have NB181_180 := nbR BK180 hg; replace BK180 := bB BK180 hb; clear hb hbox hg; have hnb24 := NB180_181.out; have hnc24 := NB181_180.out; obtain ⟨hcz25_0, hcz25_1, hcz25_2, hcz25_3⟩ := cs4 BK180.out; obtain ⟨hfz25_0, hfz25_1, hfz25_2, hfz25_3⟩ := fz4 BK180.out) | ((with_reducible refine gate_callee (f := 36) rfl ?_); refine gl (some 9) Try.func36 #[.slice A0 l0.length c0, .agg #[.int .i64 a1_0, .int .i64 a1_1, .int .i64 a1_2, .slice A1_3 l1_3.length c1_3]] ?_; (with_reducible refine (spec_RequestValid.calls k _ _ l0 a1_0 a1_1 a1_2 _ _ l1_3 true _ ?side1 ?side2 ?side3 ?side4 A4.out).mono ?_); (case side1 => repeat (first | exact (Kd.C_below HR0.out HB.out) | (with_reducible refine Kd.C_alloc ?_ _) | (with_reducible refine Kd.C_drewN ?_ _) | (with_reducible refine Kd.C_drew ?_))); (case side2 => exact HC0.out); (case side3 => repeat (first | exact (Kd.C_below HR1_3.out HB.out) | (with_reducible refine Kd.C_alloc ?_ _) | (with_reducible refine Kd.C_drewN ?_ _) | (with_reducible refine Kd.C_drew ?_))); (case side4 => exact HC1_3.out); rintro e w26 ⟨rfl, hb⟩; refine ⟨_, rfl, ?_⟩; replace BK180 := bB BK180 hb; replace BK181 := bB BK181 hb; replace HB := bS HB hb; (try clear hb); (try clear hb2); (try clear hk); (try clear hi); obtain ⟨hcz27_0, hcz27_1, hcz27_2, hcz27_3, hcz27_4, hcz27_5, hcz27_6, hcz27_7, hcz27_8⟩ := cs9 BK181.out; obtain ⟨hfz27_0, hfz27_1, hfz27_2, hfz27_3, hfz27_4, hfz27_5, hfz27_6, hfz27_7, hfz27_8⟩ := fz9 BK181.out) | (go_at_call 37; (with_reducible refine (spec_PolicyValid.calls k a2_0 a2_1 a2_2 a2_3 a2_4 a2_5 a2_6 a2_7 _ _ l2_8 true _ ?side1 ?side2 A6.out).mono ?_); (case side1 => repeat (first | exact (Kd.C_below HR2_8.out HB.out) | (with_reducible refine Kd.C_alloc ?_ _) | (with_reducible refine Kd.C_drewN ?_ _) | (with_reducible refine Kd.C_drew ?_))); (case side2 => exact HC2_8.out); rintro e w28 ⟨rfl, hb⟩; have n0_ := bB BK180 hb; have n1_ := bB BK181 hb; have n2_ := bS HB hb; clear BK180; clear BK181; clear HB; have BK180 := n0_; have BK181 := n1_; have HB := n2_; clear n0_ n1_ n2_; (try clear hb); (try clear hb2); (try clear hk); (try clear hi); obtain ⟨hcz29_0, hcz29_1, hcz29_2, hcz29_3⟩ := cs4 BK180.out; obtain ⟨hfz29_0, hfz29_1, hfz29_2, hfz29_3⟩ := fz4 BK180.out; obtain ⟨hcz30_0, hcz30_1, hcz30_2, hcz30_3, hcz30_4, hcz30_5, hcz30_6, hcz30_7, hcz30_8⟩ := cs9 BK181.out; obtain ⟨hfz30_0, hfz30_1, hfz30_2, hfz30_3, hfz30_4, hfz30_5, hfz30_6, hfz30_7, hfz30_8⟩ := fz9 BK181.out) | (go_at_call 38; (with_reducible refine (spec_l12Scope.calls k _ _ l0 a1_0 a2_2 true _ ?side1 ?side2 A8.out).mono ?_); (case side1 => repeat (first | exact (Kd.C_below HR0.out HB.out) | (with_reducible refine Kd.C_alloc ?_ _) | (with_reducible refine Kd.C_drewN ?_ _) | (with_reducible refine Kd.C_drew ?_))); (case side2 => exact HC0.out); rintro e w' ⟨rfl, ⟨nd, rfl⟩⟩) | (go_at_call 38; (with_reducible refine (spec_l12Scope.calls k _ _ l0 a1_2 a2_3 false _ ?side1 ?side2 A10.out).mono ?_); (case side1 => repeat (first | exact (Kd.C_below HR0.out (by exact bw HB.out)) | exact HR0.out | (with_reducible refine Kd.C_alloc ?_ _) | (with_reducible refine Kd.C_drewN ?_ _) | (with_reducible refine Kd.C_drew ?_))); (case side2 => exact HC0.out); rintro e w' ⟨rfl, ⟨nd, rfl⟩⟩))
     go_ret
     exact ⟨by first | rfl | (simp [errW_none, errW_some] <;> rfl) | (simp [*, errW_none, errW_some] <;> rfl), by exact bw HB.out⟩
   ·
    replace c9 := Bool.eq_false_iff.mpr c9
    subst c9
    have H1 : (some false) = some r := by rw [if_neg (show ¬ (false = true) by decide)] at H; exact H
    clear H
    have H := H1
    clear H1
    obtain rfl := Option.some.inj H
    go_enter Try.func11, Try.ntmps11
    go_wp2_with (first | ((with_reducible refine gate_dst (N := 4) rfl ?_); refine bx 4 #[.int .i64 a1_0, .int .i64 a1_1, .int .i64 a1_2, .slice A1_3 l1_3.length c1_3] 39 ?_; intro gb180 hg w31 hbox hb; have BK180 := Aside0.mk (hbox); have GW180 := gwB HB hg; have GE180 := gwB HB hg; replace HB := bS HB hb; clear hb hbox hg) | ((with_reducible refine gate_dst (N := 5) rfl ?_); refine bx 5 #[.string a2_0, .bool a2_1, .int .i64 a2_2, .int .i64 a2_3, .int .i64 a2_4, .int .i64 a2_5, .int .i64 a2_6, .string a2_7, .slice A2_8 l2_8.length c2_8] 45 ?_; intro gb181 hg w32 hbox hb; have BK181 := Aside0.mk (hbox); have GW181 := gwB HB hg; have GE181 := gwB HB hg; replace HB := bS HB hb; have NB180_181 := nbL BK180 hg; have NB181_180 := nbR BK180 hg; replace BK180 := bB BK180 hb; clear hb hbox hg; have hnb33 := NB180_181.out; have hnc33 := NB181_180.out; obtain ⟨hcz34_0, hcz34_1, hcz34_2, hcz34_3⟩ := cs4 BK180.out; obtain ⟨hfz34_0, hfz34_1, hfz34_2, hfz34_3⟩ := fz4 BK180.out) | ((with_reducible refine gate_callee (f := 36) rfl ?_); refine gl (some 9) Try.func36 #[.slice A0 l0.length c0, .agg #[.int .i64 a1_0, .int .i64 a1_1, .int .i64 a1_2, .slice A1_3 l1_3.length c1_3]] ?_; (with_reducible refine (spec_RequestValid.calls k _ _ l0 a1_0 a1_1 a1_2 _ _ l1_3 true _ ?side1 ?side2 ?side3 ?side4 A4.out).mono ?_); (case side1 => repeat (first | exact (Kd.C_below HR0.out HB.out) | (with_reducible refine Kd.C_alloc ?_ _) | (with_reducible refine Kd.C_drewN ?_ _) | (with_reducible refine Kd.C_drew ?_))); (case side2 => exact HC0.out); (case side3 => repeat (first | exact (Kd.C_below HR1_3.out HB.out) | (with_reducible refine Kd.C_alloc ?_ _) | (with_reducible refine Kd.C_drewN ?_ _) | (with_reducible refine Kd.C_drew ?_))); (case side4 => exact HC1_3.out); rintro e w35 ⟨rfl, hb⟩; refine ⟨_, rfl, ?_⟩; replace BK180 := bB BK180 hb; replace BK181 := bB BK181 hb; replace HB := bS HB hb; (try clear hb); (try clear hb2); (try clear hk); (try clear hi); obtain ⟨hcz36_0, hcz36_1, hcz36_2, hcz36_3, hcz36_4, hcz36_5, hcz36_6, hcz36_7, hcz36_8⟩ := cs9 BK181.out; obtain ⟨hfz36_0, hfz36_1, hfz36_2, hfz36_3, hfz36_4, hfz36_5, hfz36_6, hfz36_7, hfz36_8⟩ := fz9 BK181.out) | (go_at_call 37; (with_reducible refine (spec_PolicyValid.calls k a2_0 a2_1 a2_2 a2_3 a2_4 a2_5 a2_6 a2_7 _ _ l2_8 true _ ?side1 ?side2 A6.out).mono ?_); (case side1 => repeat (first | exact (Kd.C_below HR2_8.out HB.out) | (with_reducible refine Kd.C_alloc ?_ _) | (with_reducible refine Kd.C_drewN ?_ _) | (with_reducible refine Kd.C_drew ?_))); (case side2 => exact HC2_8.out); rintro e w37 ⟨rfl, hb⟩; have n0_ := bB BK180 hb; have n1_ := bB BK181 hb; have n2_ := bS HB hb; clear BK180; clear BK181; clear HB; have BK180 := n0_; have BK181 := n1_; have HB := n2_; clear n0_ n1_ n2_; (try clear hb); (try clear hb2); (try clear hk); (try clear hi); obtain ⟨hcz38_0, hcz38_1, hcz38_2, hcz38_3⟩ := cs4 BK180.out; obtain ⟨hfz38_0, hfz38_1, hfz38_2, hfz38_3⟩ := fz4 BK180.out; obtain ⟨hcz39_0, hcz39_1, hcz39_2, hcz39_3, hcz39_4, hcz39_5, hcz39_6, hcz39_7, hcz39_8⟩ := cs9 BK181.out; obtain ⟨hfz39_0, hfz39_1, hfz39_2, hfz39_3, hfz39_4, hfz39_5, hfz39_6, hfz39_7, hfz39_8⟩ := fz9 BK181.out) | (go_at_call 38; (with_reducible refine (spec_l12Scope.calls k _ _ l0 a1_0 a2_2 false _ ?side1 ?side2 A8.out).mono ?_); (case side1 => repeat (first | exact (Kd.C_below HR0.out HB.out) | (with_reducible refine Kd.C_alloc ?_ _) | (with_reducible refine Kd.C_drewN ?_ _) | (with_reducible refine Kd.C_drew ?_))); (case side2 => exact HC0.out); rintro e w' ⟨rfl, ⟨nd, rfl⟩⟩))
    go_ret
    exact ⟨by first | rfl | (simp [errW_none, errW_some] <;> rfl) | (simp [*, errW_none, errW_some] <;> rfl), by exact bw HB.out⟩
  ·
   replace c7 := Bool.eq_false_iff.mpr c7
   subst c7
   have H1 : (some false) = some r := by rw [if_neg (show ¬ (false = true) by decide)] at H; exact H
   clear H
   have H := H1
   clear H1
   obtain rfl := Option.some.inj H
   go_enter Try.func11, Try.ntmps11
   go_wp2_with (first | ((with_reducible refine gate_dst (N := 4) rfl ?_); refine bx 4 #[.int .i64 a1_0, .int .i64 a1_1, .int .i64 a1_2, .slice A1_3 l1_3.length c1_3] 39 ?_; intro gb180 hg w40 hbox hb; have BK180 := Aside0.mk (hbox); have GW180 := gwB HB hg; have GE180 := gwB HB hg; replace HB := bS HB hb; clear hb hbox hg) | ((with_reducible refine gate_dst (N := 5) rfl ?_); refine bx 5 #[.string a2_0, .bool a2_1, .int .i64 a2_2, .int .i64 a2_3, .int .i64 a2_4, .int .i64 a2_5, .int .i64 a2_6, .string a2_7, .slice A2_8 l2_8.length c2_8] 45 ?_; intro gb181 hg w41 hbox hb; have BK181 := Aside0.mk (hbox); have GW181 := gwB HB hg; have GE181 := gwB HB hg; replace HB := bS HB hb; have NB180_181 := nbL BK180 hg; have NB181_180 := nbR BK180 hg; replace BK180 := bB BK180 hb; clear hb hbox hg; have hnb42 := NB180_181.out; have hnc42 := NB181_180.out; obtain ⟨hcz43_0, hcz43_1, hcz43_2, hcz43_3⟩ := cs4 BK180.out; obtain ⟨hfz43_0, hfz43_1, hfz43_2, hfz43_3⟩ := fz4 BK180.out) | ((with_reducible refine gate_callee (f := 36) rfl ?_); refine gl (some 9) Try.func36 #[.slice A0 l0.length c0, .agg #[.int .i64 a1_0, .int .i64 a1_1, .int .i64 a1_2, .slice A1_3 l1_3.length c1_3]] ?_; (with_reducible refine (spec_RequestValid.calls k _ _ l0 a1_0 a1_1 a1_2 _ _ l1_3 true _ ?side1 ?side2 ?side3 ?side4 A4.out).mono ?_); (case side1 => repeat (first | exact (Kd.C_below HR0.out HB.out) | (with_reducible refine Kd.C_alloc ?_ _) | (with_reducible refine Kd.C_drewN ?_ _) | (with_reducible refine Kd.C_drew ?_))); (case side2 => exact HC0.out); (case side3 => repeat (first | exact (Kd.C_below HR1_3.out HB.out) | (with_reducible refine Kd.C_alloc ?_ _) | (with_reducible refine Kd.C_drewN ?_ _) | (with_reducible refine Kd.C_drew ?_))); (case side4 => exact HC1_3.out); rintro e w44 ⟨rfl, hb⟩; refine ⟨_, rfl, ?_⟩; replace BK180 := bB BK180 hb; replace BK181 := bB BK181 hb; replace HB := bS HB hb; (try clear hb); (try clear hb2); (try clear hk); (try clear hi); obtain ⟨hcz45_0, hcz45_1, hcz45_2, hcz45_3, hcz45_4, hcz45_5, hcz45_6, hcz45_7, hcz45_8⟩ := cs9 BK181.out; obtain ⟨hfz45_0, hfz45_1, hfz45_2, hfz45_3, hfz45_4, hfz45_5, hfz45_6, hfz45_7, hfz45_8⟩ := fz9 BK181.out) | (go_at_call 37; (with_reducible refine (spec_PolicyValid.calls k a2_0 a2_1 a2_2 a2_3 a2_4 a2_5 a2_6 a2_7 _ _ l2_8 false _ ?side1 ?side2 A6.out).mono ?_); (case side1 => repeat (first | exact (Kd.C_below HR2_8.out HB.out) | (with_reducible refine Kd.C_alloc ?_ _) | (with_reducible refine Kd.C_drewN ?_ _) | (with_reducible refine Kd.C_drew ?_))); (case side2 => exact HC2_8.out); rintro e w46 ⟨rfl, hb⟩; have n0_ := bB BK180 hb; have n1_ := bB BK181 hb; have n2_ := bS HB hb; clear BK180; clear BK181; clear HB; have BK180 := n0_; have BK181 := n1_; have HB := n2_; clear n0_ n1_ n2_; (try clear hb); (try clear hb2); (try clear hk); (try clear hi)))
   go_ret
   exact ⟨by first | rfl | (simp [errW_none, errW_some] <;> rfl) | (simp [*, errW_none, errW_some] <;> rfl), by exact bw HB.out⟩
 ·
  replace c5 := Bool.eq_false_iff.mpr c5
  subst c5
  have H1 : (some false) = some r := by rw [if_neg (show ¬ (false = true) by decide)] at H; exact H
  clear H
  have H := H1
  clear H1
  obtain rfl := Option.some.inj H
  go_enter Try.func11, Try.ntmps11
  go_wp2_with (first | ((with_reducible refine gate_dst (N := 4) rfl ?_); refine bx 4 #[.int .i64 a1_0, .int .i64 a1_1, .int .i64 a1_2, .slice A1_3 l1_3.length c1_3] 39 ?_; intro gb180 hg w47 hbox hb; have BK180 := Aside0.mk (hbox); have GW180 := gwB HB hg; have GE180 := gwB HB hg; replace HB := bS HB hb; clear hb hbox hg) | ((with_reducible refine gate_dst (N := 5) rfl ?_); refine bx 5 #[.string a2_0, .bool a2_1, .int .i64 a2_2, .int .i64 a2_3, .int .i64 a2_4, .int .i64 a2_5, .int .i64 a2_6, .string a2_7, .slice A2_8 l2_8.length c2_8] 45 ?_; intro gb181 hg w48 hbox hb; have BK181 := Aside0.mk (hbox); have GW181 := gwB HB hg; have GE181 := gwB HB hg; replace HB := bS HB hb; have NB180_181 := nbL BK180 hg; have NB181_180 := nbR BK180 hg; replace BK180 := bB BK180 hb; clear hb hbox hg; have hnb49 := NB180_181.out; have hnc49 := NB181_180.out; obtain ⟨hcz50_0, hcz50_1, hcz50_2, hcz50_3⟩ := cs4 BK180.out; obtain ⟨hfz50_0, hfz50_1, hfz50_2, hfz50_3⟩ := fz4 BK180.out) | ((with_reducible refine gate_callee (f := 36) rfl ?_); refine gl (some 9) Try.func36 #[.slice A0 l0.length c0, .agg #[.int .i64 a1_0, .int .i64 a1_1, .int .i64 a1_2, .slice A1_3 l1_3.length c1_3]] ?_; (with_reducible refine (spec_RequestValid.calls k _ _ l0 a1_0 a1_1 a1_2 _ _ l1_3 false _ ?side1 ?side2 ?side3 ?side4 A4.out).mono ?_); (case side1 => repeat (first | exact (Kd.C_below HR0.out HB.out) | (with_reducible refine Kd.C_alloc ?_ _) | (with_reducible refine Kd.C_drewN ?_ _) | (with_reducible refine Kd.C_drew ?_))); (case side2 => exact HC0.out); (case side3 => repeat (first | exact (Kd.C_below HR1_3.out HB.out) | (with_reducible refine Kd.C_alloc ?_ _) | (with_reducible refine Kd.C_drewN ?_ _) | (with_reducible refine Kd.C_drew ?_))); (case side4 => exact HC1_3.out); rintro e w51 ⟨rfl, hb⟩; refine ⟨_, rfl, ?_⟩; replace BK180 := bB BK180 hb; replace BK181 := bB BK181 hb; replace HB := bS HB hb; (try clear hb); (try clear hb2); (try clear hk); (try clear hi)))
  go_ret
  exact ⟨by first | rfl | (simp [errW_none, errW_some] <;> rfl) | (simp [*, errW_none, errW_some] <;> rfl), by exact bw HB.out⟩

end Go.Proofs.Ytipoeghieeafjaa.P
