-- Written by a program of this session (wip/tool).
import Derived.Test.YtipoeghieeafjaaPx0
import Derived.Test.YtipoeghieeafjaaPx1051
import Derived.Test.YtipoeghieeafjaaPx1085
namespace Go.Proofs.Ytipoeghieeafjaa.P
open Go.RowKit Go.Proofs.YtipoeghieeafjaaW.PrintWords Go.Proofs.YtipoeghieeafjaaW.PrintLast Go.Proofs.YtipoeghieeafjaaW.PrintMore
attribute [local go_sem] max2_int min2_int max_two min_two max_three min_three max_four min_four   -- for this text's walks alone
set_option linter.unusedVariables false
set_option linter.unusedSimpArgs false

/-! ### impl_InScope: function 15 -/
def impl_InScope.f (k : Nat) (l0 : List (S79)) (a1_0 : Int) (a1_1 : Int) (a1_2 : Int) (l1_3 : List (S103)) (a2_0 : ByteArray) (a2_1 : Bool) (a2_2 : Int) (a2_3 : Int) (a2_4 : Int) (a2_5 : Int) (a2_6 : Int) (a2_7 : ByteArray) (l2_8 : List (S43)) : Option (Bool) := (impl_RequestValid.f k l0 a1_0 a1_1 a1_2 l1_3).bind fun t326 => (if t326 = true then ((impl_PolicyValid.f k a2_0 a2_1 a2_2 a2_3 a2_4 a2_5 a2_6 a2_7 l2_8).bind fun t327 => (if t327 = true then ((impl_scoped.f k l0 a1_0 a2_2).bind fun t328 => (if t328 = true then ((impl_scoped.f k l0 a1_2 a2_3).bind fun t329 => (if t329 = true then (if 0 ≤ a1_1 then (some ((Go.bits .and .i64 (shr .i64 a2_4 a1_1) 1) == 1)) else (none)) else (some false))) else (some false))) else (some false))) else (some false))
theorem impl_InScope.mono : ∀ a0 a1 a2 a3 a4 a5 a6 a7 a8 a9 a10 a11 a12 a13 k, LeO (impl_InScope.f k a0 a1 a2 a3 a4 a5 a6 a7 a8 a9 a10 a11 a12 a13) (impl_InScope.f (k + 1) a0 a1 a2 a3 a4 a5 a6 a7 a8 a9 a10 a11 a12 a13) := by
 intro a0 a1 a2 a3 a4 a5 a6 a7 a8 a9 a10 a11 a12 a13 k
 unfold impl_InScope.f
 repeat' first
   | (with_reducible exact impl_PolicyValid.mono _ _ _ _ _ _ _ _ _ _)
   | (with_reducible exact impl_RequestValid.mono _ _ _ _ _ _)
   | (with_reducible exact impl_scoped.mono _ _ _ _)
   | (with_reducible exact LeO.refl _)
   | (with_reducible exact LeO.none _)
   | (with_reducible refine LeO.ite ?_ ?_)
   | (with_reducible refine LeO.bind ?_ (fun _ => ?_))
   | exact impl_PolicyValid.mono _ _ _ _ _ _ _ _ _ _
   | exact impl_RequestValid.mono _ _ _ _ _ _
   | exact impl_scoped.mono _ _ _ _
   | exact LeO.none _
   | refine LeO.ite ?_ ?_
   | refine LeO.bind ?_ (fun _ => ?_)
set_option maxHeartbeats 8000000 in
set_option maxRecDepth 100000 in
theorem impl_InScope.calls (k : Nat) (A0 : Option Addr) (c0 : Nat) (l0 : List (S79)) (a1_0 : Int) (a1_1 : Int) (a1_2 : Int) (A1_3 : Option Addr) (c1_3 : Nat) (l1_3 : List (S103)) (a2_0 : ByteArray) (a2_1 : Bool) (a2_2 : Int) (a2_3 : Int) (a2_4 : Int) (a2_5 : Int) (a2_6 : Int) (a2_7 : ByteArray) (A2_8 : Option Addr) (c2_8 : Nat) (l2_8 : List (S43)) (r : Bool) (w : World) (hr0 : Kd.C k79 w A0 l0.length l0) (hc0 : l0.length ≤ c0) (hr1_3 : Kd.C k103 w A1_3 l1_3.length l1_3) (hc1_3 : l1_3.length ≤ c1_3) (hr2_8 : Kd.C k43 w A2_8 l2_8.length l2_8) (hc2_8 : l2_8.length ≤ c2_8) (h : impl_InScope.f k l0 a1_0 a1_1 a1_2 l1_3 a2_0 a2_1 a2_2 a2_3 a2_4 a2_5 a2_6 a2_7 l2_8 = some r) :
  Calls Try.prog 15 #[.slice A0 l0.length c0, .agg #[.int .i64 a1_0, .int .i64 a1_1, .int .i64 a1_2, .slice A1_3 l1_3.length c1_3], .agg #[.string a2_0, .bool a2_1, .int .i64 a2_2, .int .i64 a2_3, .int .i64 a2_4, .int .i64 a2_5, .int .i64 a2_6, .string a2_7, .slice A2_8 l2_8.length c2_8]] w fun e w' => e = .returned (.bool r) ∧ Below w.heap.size w w' := by
 have hu39 := Try.underlying39
 have hu45 := Try.underlying45
 have HR0 := Aside0.mk hr0
 have HC0 := Aside0.mk hc0
 clear hr0 hc0
 have HR1_3 := Aside0.mk hr1_3
 have HC1_3 := Aside0.mk hc1_3
 clear hr1_3 hc1_3
 have HR2_8 := Aside0.mk hr2_8
 have HC2_8 := Aside0.mk hc2_8
 clear hr2_8 hc2_8
 have HB := Aside0.mk (Below.refl w.heap.size w)
 have H : ((impl_RequestValid.f k l0 a1_0 a1_1 a1_2 l1_3).bind fun t326 => (if t326 = true then ((impl_PolicyValid.f k a2_0 a2_1 a2_2 a2_3 a2_4 a2_5 a2_6 a2_7 l2_8).bind fun t327 => (if t327 = true then ((impl_scoped.f k l0 a1_0 a2_2).bind fun t328 => (if t328 = true then ((impl_scoped.f k l0 a1_2 a2_3).bind fun t329 => (if t329 = true then (if 0 ≤ a1_1 then (some ((Go.bits .and .i64 (shr .i64 a2_4 a1_1) 1) == 1)) else (none)) else (some false))) else (some false))) else (some false))) else (some false))) = some r := h
 clear h
 replace H := Option.bind_eq_some_iff.mp H
 obtain ⟨t326, A40, H⟩ := H
 replace H : (if t326 = true then ((impl_PolicyValid.f k a2_0 a2_1 a2_2 a2_3 a2_4 a2_5 a2_6 a2_7 l2_8).bind fun t327 => (if t327 = true then ((impl_scoped.f k l0 a1_0 a2_2).bind fun t328 => (if t328 = true then ((impl_scoped.f k l0 a1_2 a2_3).bind fun t329 => (if t329 = true then (if 0 ≤ a1_1 then (some ((Go.bits .and .i64 (shr .i64 a2_4 a1_1) 1) == 1)) else (none)) else (some false))) else (some false))) else (some false))) else (some false)) = some r := H
 have A4 := Aside0.mk A40
 clear A40
 by_cases c5 : t326 = true
 ·
  subst c5
  have H1 : ((impl_PolicyValid.f k a2_0 a2_1 a2_2 a2_3 a2_4 a2_5 a2_6 a2_7 l2_8).bind fun t327 => (if t327 = true then ((impl_scoped.f k l0 a1_0 a2_2).bind fun t328 => (if t328 = true then ((impl_scoped.f k l0 a1_2 a2_3).bind fun t329 => (if t329 = true then (if 0 ≤ a1_1 then (some ((Go.bits .and .i64 (shr .i64 a2_4 a1_1) 1) == 1)) else (none)) else (some false))) else (some false))) else (some false))) = some r := by rw [if_pos rfl] at H; exact H
  clear H
  have H := H1
  clear H1
  replace H := Option.bind_eq_some_iff.mp H
  obtain ⟨t327, A60, H⟩ := H
  replace H : (if t327 = true then ((impl_scoped.f k l0 a1_0 a2_2).bind fun t328 => (if t328 = true then ((impl_scoped.f k l0 a1_2 a2_3).bind fun t329 => (if t329 = true then (if 0 ≤ a1_1 then (some ((Go.bits .and .i64 (shr .i64 a2_4 a1_1) 1) == 1)) else (none)) else (some false))) else (some false))) else (some false)) = some r := H
  have A6 := Aside0.mk A60
  clear A60
  by_cases c7 : t327 = true
  ·
   subst c7
   have H1 : ((impl_scoped.f k l0 a1_0 a2_2).bind fun t328 => (if t328 = true then ((impl_scoped.f k l0 a1_2 a2_3).bind fun t329 => (if t329 = true then (if 0 ≤ a1_1 then (some ((Go.bits .and .i64 (shr .i64 a2_4 a1_1) 1) == 1)) else (none)) else (some false))) else (some false))) = some r := by rw [if_pos rfl] at H; exact H
   clear H
   have H := H1
   clear H1
   replace H := Option.bind_eq_some_iff.mp H
   obtain ⟨t328, A80, H⟩ := H
   replace H : (if t328 = true then ((impl_scoped.f k l0 a1_2 a2_3).bind fun t329 => (if t329 = true then (if 0 ≤ a1_1 then (some ((Go.bits .and .i64 (shr .i64 a2_4 a1_1) 1) == 1)) else (none)) else (some false))) else (some false)) = some r := H
   have A8 := Aside0.mk A80
   clear A80
   by_cases c9 : t328 = true
   ·
    subst c9
    have H1 : ((impl_scoped.f k l0 a1_2 a2_3).bind fun t329 => (if t329 = true then (if 0 ≤ a1_1 then (some ((Go.bits .and .i64 (shr .i64 a2_4 a1_1) 1) == 1)) else (none)) else (some false))) = some r := by rw [if_pos rfl] at H; exact H
    clear H
    have H := H1
    clear H1
    replace H := Option.bind_eq_some_iff.mp H
    obtain ⟨t329, A100, H⟩ := H
    replace H : (if t329 = true then (if 0 ≤ a1_1 then (some ((Go.bits .and .i64 (shr .i64 a2_4 a1_1) 1) == 1)) else (none)) else (some false)) = some r := H
    have A10 := Aside0.mk A100
    clear A100
    by_cases c11 : t329 = true
    ·
     subst c11
     have H1 : (if 0 ≤ a1_1 then (some ((Go.bits .and .i64 (shr .i64 a2_4 a1_1) 1) == 1)) else (none)) = some r := by rw [if_pos rfl] at H; exact H
     clear H
     have H := H1
     clear H1
     by_cases c12 : 0 ≤ a1_1
     ·
      rw [if_pos c12] at H; have c12b0 := eq_true c12
      have c12b1 : decide (0 ≤ a1_1) = true := decide_eq_true c12
      clear c12
      obtain ⟨ji13, hji13⟩ : ∃ j_ : Int, (shr .i64 a2_4 a1_1) = j_ := ⟨_, rfl⟩
      replace H : (some ((Go.bits .and .i64 (ji13) 1) == 1)) = some r := by first | (rw [hji13] at H; exact H) | (simp only [hji13] at H ⊢; exact H)
      (try rw [hji13] at A4)
      (try rw [hji13] at A6)
      (try rw [hji13] at A8)
      (try rw [hji13] at A10)
      have hji13_ : (a2_4 / 2 ^ min a1_1.toNat 64) = ji13 := hji13
      have hji13z : a1_1 ≤ 64 → (a2_4 / 2 ^ a1_1.toNat) = ji13 := shr_small hji13
      obtain rfl := Option.some.inj H
      go_enter Try.func15, Try.ntmps15
      go_wp2_with (first | ((with_reducible refine gate_dst (N := 4) rfl ?_); refine bx 4 #[.int .i64 a1_0, .int .i64 a1_1, .int .i64 a1_2, .slice A1_3 l1_3.length c1_3] 39 ?_; intro gb324 hg w14 hbox hb; have BK324 := Aside0.mk (hbox); have GW324 := gwB HB hg; have GE324 := gwB HB hg; replace HB := bS HB hb; clear hb hbox hg) | ((with_reducible refine gate_dst (N := 5) rfl ?_); refine bx 5 #[.string a2_0, .bool a2_1, .int .i64 a2_2, .int .i64 a2_3, .int .i64 a2_4, .int .i64 a2_5, .int .i64 a2_6, .string a2_7, .slice A2_8 l2_8.length c2_8] 45 ?_; intro gb325 hg w15 hbox hb; have BK325 := Aside0.mk (hbox); have GW325 := gwB HB hg; have GE325 := gwB HB hg; replace HB := bS HB hb; have NB324_325 := nbL BK324 hg; have NB325_324 := nbR BK324 hg; replace BK324 := bB BK324 hb; clear hb hbox hg; have hnb16 := NB324_325.out; have hnc16 := NB325_324.out; obtain ⟨hcz17_0, hcz17_1, hcz17_2, hcz17_3⟩ := cs4 BK324.out; obtain ⟨hfz17_0, hfz17_1, hfz17_2, hfz17_3⟩ := fz4 BK324.out) | ((with_reducible refine gate_callee (f := 42) rfl ?_); refine gl (some 9) Try.func42 #[.slice A0 l0.length c0, .agg #[.int .i64 a1_0, .int .i64 a1_1, .int .i64 a1_2, .slice A1_3 l1_3.length c1_3]] ?_; (with_reducible refine (impl_RequestValid.calls k _ _ l0 a1_0 a1_1 a1_2 _ _ l1_3 true _ ?side1 ?side2 ?side3 ?side4 A4.out).mono ?_); (case side1 => repeat (first | exact (Kd.C_below HR0.out HB.out) | (with_reducible refine Kd.C_alloc ?_ _) | (with_reducible refine Kd.C_drewN ?_ _) | (with_reducible refine Kd.C_drew ?_))); (case side2 => exact HC0.out); (case side3 => repeat (first | exact (Kd.C_below HR1_3.out HB.out) | (with_reducible refine Kd.C_alloc ?_ _) | (with_reducible refine Kd.C_drewN ?_ _) | (with_reducible refine Kd.C_drew ?_))); (case side4 => exact HC1_3.out); rintro e w18 ⟨rfl, hb⟩; refine ⟨_, rfl, ?_⟩; replace BK324 := bB BK324 hb; replace BK325 := bB BK325 hb; replace HB := bS HB hb; (try clear hb); (try clear hb2); (try clear hk); (try clear hi); obtain ⟨hcz19_0, hcz19_1, hcz19_2, hcz19_3, hcz19_4, hcz19_5, hcz19_6, hcz19_7, hcz19_8⟩ := cs9 BK325.out; obtain ⟨hfz19_0, hfz19_1, hfz19_2, hfz19_3, hfz19_4, hfz19_5, hfz19_6, hfz19_7, hfz19_8⟩ := fz9 BK325.out) | (go_at_call 43; (with_reducible refine (impl_PolicyValid.calls k a2_0 a2_1 a2_2 a2_3 a2_4 a2_5 a2_6 a2_7 _ _ l2_8 true _ ?side1 ?side2 A6.out).mono ?_); (case side1 => repeat (first | exact (Kd.C_below HR2_8.out HB.out) | (with_reducible refine Kd.C_alloc ?_ _) | (with_reducible refine Kd.C_drewN ?_ _) | (with_reducible refine Kd.C_drew ?_))); (case side2 => exact HC2_8.out); rintro e w20 ⟨rfl, hb⟩; have n0_ := bB BK324 hb; have n1_ := bB BK325 hb; have n2_ := bS HB hb; clear BK324; clear BK325; clear HB; have BK324 := n0_; have BK325 := n1_; have HB := n2_; clear n0_ n1_ n2_; (try clear hb); (try clear hb2); (try clear hk); (try clear hi); obtain ⟨hcz21_0, hcz21_1, hcz21_2, hcz21_3⟩ := cs4 BK324.out; obtain ⟨hfz21_0, hfz21_1, hfz21_2, hfz21_3⟩ := fz4 BK324.out; obtain ⟨hcz22_0, hcz22_1, hcz22_2, hcz22_3, hcz22_4, hcz22_5, hcz22_6, hcz22_7, hcz22_8⟩ := cs9 BK325.out; obtain ⟨hfz22_0, hfz22_1, hfz22_2, hfz22_3, hfz22_4, hfz22_5, hfz22_6, hfz22_7, hfz22_8⟩ := fz9 BK325.out) | (go_at_call 44; (with_reducible refine (impl_scoped.calls k _ _ l0 a1_0 a2_2 true _ ?side1 ?side2 A8.out).mono ?_); (case side1 => repeat (first | exact (Kd.C_below HR0.out HB.out) | (with_reducible refine Kd.C_alloc ?_ _) | (with_reducible refine Kd.C_drewN ?_ _) | (with_reducible refine Kd.C_drew ?_))); (case side2 => exact HC0.out); rintro e w23 ⟨rfl, hb⟩; have n0_ := bB BK324 hb; have n1_ := bB BK325 hb; have n2_ := bS HB hb; clear BK324; clear BK325; clear HB; have BK324 := n0_; have BK325 := n1_; have HB := n2_; clear n0_ n1_ n2_; (try clear hb); (try clear hb2); (try clear hk); (try clear hi); obtain ⟨hcz24_0, hcz24_1, hcz24_2, hcz24_3⟩ := cs4 BK324.out; obtain ⟨hfz24_0, hfz24_1, hfz24_2, hfz24_3⟩ := fz4 BK324.out; obtain ⟨hcz25_0, hcz25_1, hcz25_2, hcz25_3, hcz25_4, hcz25_5, hcz25_6, hcz25_7, hcz25_8⟩ := cs9 BK325.out; obtain ⟨hfz25_0, hfz25_1, hfz25_2, hfz25_3, hfz25_4, hfz25_5, hfz25_6, hfz25_7, hfz25_8⟩ := fz9 BK325.out) | (go_at_call 44; (with_reducible refine (impl_scoped.calls k _ _ l0 a1_2 a2_3 true _ ?side1 ?side2 A10.out).mono ?_); (case side1 => repeat (first | exact (Kd.C_below HR0.out HB.out) | (with_reducible refine Kd.C_alloc ?_ _) | (with_reducible refine Kd.C_drewN ?_ _) | (with_reducible refine Kd.C_drew ?_))); (case side2 => exact HC0.out); rintro e w26 ⟨rfl, hb⟩; have n0_ := bB BK324 hb; have n1_ := bB BK325 hb; have n2_ := bS HB hb; clear BK324; clear BK325; clear HB; have BK324 := n0_; have BK325 := n1_; have HB := n2_; clear n0_ n1_ n2_; (try clear hb); (try clear hb2); (try clear hk); (try clear hi); obtain ⟨hcz27_0, hcz27_1, hcz27_2, hcz27_3, hcz27_4, hcz27_5, hcz27_6, hcz27_7, hcz27_8⟩ := cs9 BK325.out; obtain ⟨hfz27_0, hfz27_1, hfz27_2, hfz27_3, hfz27_4, hfz27_5, hfz27_6, hfz27_7, hfz27_8⟩ := fz9 BK325.out; obtain ⟨hcz28_0, hcz28_1, hcz28_2, hcz28_3⟩ := cs4 BK324.out; obtain ⟨hfz28_0, hfz28_1, hfz28_2, hfz28_3⟩ := fz4 BK324.out))
      go_ret
      exact ⟨by first | rfl | (simp [errW_none, errW_some] <;> rfl) | (simp only [← hji13]; first | rfl | (simp [errW_none, errW_some] <;> rfl)) | (simp [*, errW_none, errW_some] <;> rfl), by exact bw HB.out⟩
     ·
      rw [if_neg c12] at H; exact absurd H (by simp)
    ·
     replace c11 := Bool.eq_false_iff.mpr c11
     subst c11
     have H1 : (some false) = some r := by rw [if_neg (show ¬ (false = true) by decide)] at H; exact H
     clear H
     have H := H1
     clear H1
     obtain rfl := Option.some.inj H
     go_enter Try.func15, Try.ntmps15
     go_wp2_with (first | ((with_reducible refine gate_dst (N := 4) rfl ?_); refine bx 4 #[.int .i64 a1_0, .int .i64 a1_1, .int .i64 a1_2, .slice A1_3 l1_3.length c1_3] 39 ?_; intro gb324 hg w29 hbox hb; have BK324 := Aside0.mk (hbox); have GW324 := gwB HB hg; have GE324 := gwB HB hg; replace HB := bS HB hb; clear hb hbox hg) | ((with_reducible refine gate_dst (N := 5) rfl ?_); refine bx 5 #[.string a2_0, .bool a2_1, .int .i64 a2_2, .int .i64 a2_3, .int .i64 a2_4, .int .i64 a2_5, .int .i64 a2_6, .string a2_7, .slice A2_8 l2_8.length c2_8] 45 ?_; intro gb325 hg w30 hbox hb; have BK325 := Aside0.mk (hbox); have GW325 := gwB HB hg; have GE325 := gwB HB hg; replace HB := bS HB hb; have NB324_325 := nbL BK324 hg; have NB325_324 := nbR BK324 hg; replace BK324 := bB BK324 hb; clear hb hbox hg; have hnb31 := NB324_325.out; have hnc31 := NB325_324.out; obtain ⟨hcz32_0, hcz32_1, hcz32_2, hcz32_3⟩ := cs4 BK324.out; obtain ⟨hfz32_0, hfz32_1, hfz32_2, hfz32_3⟩ := fz4 BK324.out) | ((with_reducible refine gate_callee (f := 42) rfl ?_); refine gl (some 9) Try.func42 #[.slice A0 l0.length c0, .agg #[.int .i64 a1_0, .int .i64 a1_1, .int .i64 a1_2, .slice A1_3 l1_3.length c1_3]] ?_; (with_reducible refine (impl_RequestValid.calls k _ _ l0 a1_0 a1_1 a1_2 _ _ l1_3 true _ ?side1 ?side2 ?side3 ?side4 A4.out).mono ?_); (case side1 => repeat (first | exact (Kd.C_below HR0.out HB.out) | (with_reducible refine Kd.C_alloc ?_ _) | (with_reducible refine Kd.C_drewN ?_ _) | (with_reducible refine Kd.C_drew ?_))); (case side2 => exact HC0.out); (case side3 => repeat (first | exact (Kd.C_below HR1_3.out HB.out) | (with_reducible refine Kd.C_alloc ?_ _) | (with_reducible refine Kd.C_drewN ?_ _) | (with_reducible refine Kd.C_drew ?_))); (case side4 => exact HC1_3.out); rintro e w33 ⟨rfl, hb⟩; refine ⟨_, rfl, ?_⟩; replace BK324 := bB BK324 hb; replace BK325 := bB BK325 hb; replace HB := bS HB hb; (try clear hb); (try clear hb2); (try clear hk); (try clear hi); obtain ⟨hcz34_0, hcz34_1, hcz34_2, hcz34_3, hcz34_4, hcz34_5, hcz34_6, hcz34_7, hcz34_8⟩ := cs9 BK325.out; obtain ⟨hfz34_0, hfz34_1, hfz34_2, hfz34_3, hfz34_4, hfz34_5, hfz34_6, hfz34_7, hfz34_8⟩ := fz9 BK325.out) | (go_at_call 43; (with_reducible refine (impl_PolicyValid.calls k a2_0 a2_1 a2_2 a2_3 a2_4 a2_5 a2_6 a2_7 _ _ l2_8 true _ ?side1 ?side2 A6.out).mono ?_); (case side1 => repeat (first | exact (Kd.C_below HR2_8.out HB.out) | (with_reducible refine Kd.C_alloc ?_ _) | (with_reducible refine Kd.C_drewN ?_ _) | (with_reducible refine Kd.C_drew ?_))); (case side2 => exact HC2_8.out); rintro e w35 ⟨rfl, hb⟩; have n0_ := bB BK324 hb; have n1_ := bB BK325 hb; have n2_ := bS HB hb; clear BK324; clear BK325; clear HB; have BK324 := n0_; have BK325 := n1_; have HB := n2_; clear n0_ n1_ n2_; (try clear hb); (try clear hb2); (try clear hk); (try clear hi); obtain ⟨hcz36_0, hcz36_1, hcz36_2, hcz36_3⟩ := cs4 BK324.out; obtain ⟨hfz36_0, hfz36_1, hfz36_2, hfz36_3⟩ := fz4 BK324.out; obtain ⟨hcz37_0, hcz37_1, hcz37_2, hcz37_3, hcz37_4, hcz37_5, hcz37_6, hcz37_7, hcz37_8⟩ := cs9 BK325.out; obtain ⟨hfz37_0, hfz37_1, hfz37_2, hfz37_3, hfz37_4, hfz37_5, hfz37_6, hfz37_7, hfz37_8⟩ := fz9 BK325.out) | (go_at_call 44; (with_reducible refine (impl_scoped.calls k _ _ l0 a1_0 a2_2 true _ ?side1 ?side2 A8.out).mono ?_); (case side1 => repeat (first | exact (Kd.C_below HR0.out HB.out) | (with_reducible refine Kd.C_alloc ?_ _) | (with_reducible refine Kd.C_drewN ?_ _) | (with_reducible refine Kd.C_drew ?_))); (case side2 => exact HC0.out); rintro e w38 ⟨rfl, hb⟩; have n0_ := bB BK324 hb; have n1_ := bB BK325 hb; have n2_ := bS HB hb; clear BK324; clear BK325; clear HB; have BK324 := n0_; have BK325 := n1_; have HB := n2_; clear n0_ n1_ n2_; (try clear hb); (try clear hb2); (try clear hk); (try clear hi); obtain ⟨hcz39_0, hcz39_1, hcz39_2, hcz39_3⟩ := cs4 BK324.out; obtain ⟨hfz39_0, hfz39_1, hfz39_2, hfz39_3⟩ := fz4 BK324.out; obtain ⟨hcz40_0, hcz40_1, hcz40_2, hcz40_3, hcz40_4, hcz40_5, hcz40_6, hcz40_7, hcz40_8⟩ := cs9 BK325.out; obtain ⟨hfz40_0, hfz40_1, hfz40_2, hfz40_3, hfz40_4, hfz40_5, hfz40_6, hfz40_7, hfz40_8⟩ := fz9 BK325.out) | (go_at_call 44; (with_reducible refine (impl_scoped.calls k _ _ l0 a1_2 a2_3 false _ ?side1 ?side2 A10.out).mono ?_); (case side1 => repeat (first | exact (Kd.C_below HR0.out HB.out) | (with_reducible refine Kd.C_alloc ?_ _) | (with_reducible refine Kd.C_drewN ?_ _) | (with_reducible refine Kd.C_drew ?_))); (case side2 => exact HC0.out); rintro e w41 ⟨rfl, hb⟩; have n0_ := bB BK324 hb; have n1_ := bB BK325 hb; have n2_ := bS HB hb; clear BK324; clear BK325; clear HB; have BK324 := n0_; have BK325 := n1_; have HB := n2_; clear n0_ n1_ n2_; (try clear hb); (try clear hb2); (try clear hk); (try clear hi)))
     go_ret
     exact ⟨by first | rfl | (simp [errW_none, errW_some] <;> rfl) | (simp [*, errW_none, errW_some] <;> rfl), by exact bw HB.out⟩
   ·
    replace c9 := Bool.eq_false_iff.mpr c9
    subst c9
    have H1 : (some false) = some r := by rw [if_neg (show ¬ (false = true) by decide)] at H; exact H
    clear H
    have H := H1
    clear H1
    obtain rfl := Option.some.inj H
    go_enter Try.func15, Try.ntmps15
    go_wp2_with (first | ((with_reducible refine gate_dst (N := 4) rfl ?_); refine bx 4 #[.int .i64 a1_0, .int .i64 a1_1, .int .i64 a1_2, .slice A1_3 l1_3.length c1_3] 39 ?_; intro gb324 hg w42 hbox hb; have BK324 := Aside0.mk (hbox); have GW324 := gwB HB hg; have GE324 := gwB HB hg; replace HB := bS HB hb; clear hb hbox hg) | ((with_reducible refine gate_dst (N := 5) rfl ?_); refine bx 5 #[.string a2_0, .bool a2_1, .int .i64 a2_2, .int .i64 a2_3, .int .i64 a2_4, .int .i64 a2_5, .int .i64 a2_6, .string a2_7, .slice A2_8 l2_8.length c2_8] 45 ?_; intro gb325 hg w43 hbox hb; have BK325 := Aside0.mk (hbox); have GW325 := gwB HB hg; have GE325 := gwB HB hg; replace HB := bS HB hb; have NB324_325 := nbL BK324 hg; have NB325_324 := nbR BK324 hg; replace BK324 := bB BK324 hb; clear hb hbox hg; have hnb44 := NB324_325.out; have hnc44 := NB325_324.out; obtain ⟨hcz45_0, hcz45_1, hcz45_2, hcz45_3⟩ := cs4 BK324.out; obtain ⟨hfz45_0, hfz45_1, hfz45_2, hfz45_3⟩ := fz4 BK324.out) | ((with_reducible refine gate_callee (f := 42) rfl ?_); refine gl (some 9) Try.func42 #[.slice A0 l0.length c0, .agg #[.int .i64 a1_0, .int .i64 a1_1, .int .i64 a1_2, .slice A1_3 l1_3.length c1_3]] ?_; (with_reducible refine (impl_RequestValid.calls k _ _ l0 a1_0 a1_1 a1_2 _ _ l1_3 true _ ?side1 ?side2 ?side3 ?side4 A4.out).mono ?_); (case side1 => repeat (first | exact (Kd.C_below HR0.out HB.out) | (with_reducible refine Kd.C_alloc ?_ _) | (with_reducible refine Kd.C_drewN ?_ _) | (with_reducible refine Kd.C_drew ?_))); (case side2 => exact HC0.out); (case side3 => repeat (first | exact (Kd.C_below HR1_3.out HB.out) | (with_reducible refine Kd.C_alloc ?_ _) | (with_reducible refine Kd.C_drewN ?_ _) | (with_reducible refine Kd.C_drew ?_))); (case side4 => exact HC1_3.out); rintro e w46 ⟨rfl, hb⟩; refine ⟨_, rfl, ?_⟩; replace BK324 := bB BK324 hb; replace BK325 := bB BK325 hb; replace HB := bS HB hb; (try clear hb); (try clear hb2); (try clear hk); (try clear hi); obtain ⟨hcz47_0, hcz47_1, hcz47_2, hcz47_3, hcz47_4, hcz47_5, hcz47_6, hcz47_7, hcz47_8⟩ := cs9 BK325.out; obtain ⟨hfz47_0, hfz47_1, hfz47_2, hfz47_3, hfz47_4, hfz47_5, hfz47_6, hfz47_7, hfz47_8⟩ := fz9 BK325.out) | (go_at_call 43; (with_reducible refine (impl_PolicyValid.calls k a2_0 a2_1 a2_2 a2_3 a2_4 a2_5 a2_6 a2_7 _ _ l2_8 true _ ?side1 ?side2 A6.out).mono ?_); (case side1 => repeat (first | exact (Kd.C_below HR2_8.out HB.out) | (with_reducible refine Kd.C_alloc ?_ _) | (with_reducible refine Kd.C_drewN ?_ _) | (with_reducible refine Kd.C_drew ?_))); (case side2 => exact HC2_8.out); rintro e w48 ⟨rfl, hb⟩; have n0_ := bB BK324 hb; have n1_ := bB BK325 hb; have n2_ := bS HB hb; clear BK324; clear BK325; clear HB; have BK324 := n0_; have BK325 := n1_; have HB := n2_; clear n0_ n1_ n2_; (try clear hb); (try clear hb2); (try clear hk); (try clear hi); obtain ⟨hcz49_0, hcz49_1, hcz49_2, hcz49_3⟩ := cs4 BK324.out; obtain ⟨hfz49_0, hfz49_1, hfz49_2, hfz49_3⟩ := fz4 BK324.out; obtain ⟨hcz50_0, hcz50_1, hcz50_2, hcz50_3, hcz50_4, hcz50_5, hcz50_6, hcz50_7, hcz50_8⟩ := cs9 BK325.out; obtain ⟨hfz50_0, hfz50_1, hfz50_2, hfz50_3, hfz50_4, hfz50_5, hfz50_6, hfz50_7, hfz50_8⟩ := fz9 BK325.out) | (go_at_call 44; (with_reducible refine (impl_scoped.calls k _ _ l0 a1_0 a2_2 false _ ?side1 ?side2 A8.out).mono ?_); (case side1 => repeat (first | exact (Kd.C_below HR0.out HB.out) | (with_reducible refine Kd.C_alloc ?_ _) | (with_reducible refine Kd.C_drewN ?_ _) | (with_reducible refine Kd.C_drew ?_))); (case side2 => exact HC0.out); rintro e w51 ⟨rfl, hb⟩; have n0_ := bB BK324 hb; have n1_ := bB BK325 hb; have n2_ := bS HB hb; clear BK324; clear BK325; clear HB; have BK324 := n0_; have BK325 := n1_; have HB := n2_; clear n0_ n1_ n2_; (try clear hb); (try clear hb2); (try clear hk); (try clear hi)))
    go_ret
    exact ⟨by first | rfl | (simp [errW_none, errW_some] <;> rfl) | (simp [*, errW_none, errW_some] <;> rfl), by exact bw HB.out⟩
  ·
   replace c7 := Bool.eq_false_iff.mpr c7
   subst c7
   have H1 : (some false) = some r := by rw [if_neg (show ¬ (false = true) by decide)] at H; exact H
   clear H
   have H := H1
   clear H1
   obtain rfl := Option.some.inj H
   go_enter Try.func15, Try.ntmps15
   go_wp2_with (first | ((with_reducible refine gate_dst (N := 4) rfl ?_); refine bx 4 #[.int .i64 a1_0, .int .i64 a1_1, .int .i64 a1_2, .slice A1_3 l1_3.length c1_3] 39 ?_; intro gb324 hg w52 hbox hb; have BK324 := Aside0.mk (hbox); have GW324 := gwB HB hg; have GE324 := gwB HB hg; replace HB := bS HB hb; clear hb hbox hg) | ((with_reducible refine gate_dst (N := 5) rfl ?_); refine bx 5 #[.string a2_0, .bool a2_1, .int .i64 a2_2, .int .i64 a2_3, .int .i64 a2_4, .int .i64 a2_5, .int .i64 a2_6, .string a2_7, .slice A2_8 l2_8.length c2_8] 45 ?_; intro gb325 hg w53 hbox hb; have BK325 := Aside0.mk (hbox); have GW325 := gwB HB hg; have GE325 := gwB HB hg; replace HB := bS HB hb; have NB324_325 := nbL BK324 hg; have NB325_324 := nbR BK324 hg; replace BK324 := bB BK324 hb; clear hb hbox hg; have hnb54 := NB324_325.out; have hnc54 := NB325_324.out; obtain ⟨hcz55_0, hcz55_1, hcz55_2, hcz55_3⟩ := cs4 BK324.out; obtain ⟨hfz55_0, hfz55_1, hfz55_2, hfz55_3⟩ := fz4 BK324.out) | ((with_reducible refine gate_callee (f := 42) rfl ?_); refine gl (some 9) Try.func42 #[.slice A0 l0.length c0, .agg #[.int .i64 a1_0, .int .i64 a1_1, .int .i64 a1_2, .slice A1_3 l1_3.length c1_3]] ?_; (with_reducible refine (impl_RequestValid.calls k _ _ l0 a1_0 a1_1 a1_2 _ _ l1_3 true _ ?side1 ?side2 ?side3 ?side4 A4.out).mono ?_); (case side1 => repeat (first | exact (Kd.C_below HR0.out HB.out) | (with_reducible refine Kd.C_alloc ?_ _) | (with_reducible refine Kd.C_drewN ?_ _) | (with_reducible refine Kd.C_drew ?_))); (case side2 => exact HC0.out); (case side3 => repeat (first | exact (Kd.C_below HR1_3.out HB.out) | (with_reducible refine Kd.C_alloc ?_ _) | (with_reducible refine Kd.C_drewN ?_ _) | (with_reducible refine Kd.C_drew ?_))); (case side4 => exact HC1_3.out); rintro e w56 ⟨rfl, hb⟩; refine ⟨_, rfl, ?_⟩; replace BK324 := bB BK324 hb; replace BK325 := bB BK325 hb; replace HB := bS HB hb; (try clear hb); (try clear hb2); (try clear hk); (try clear hi); obtain ⟨hcz57_0, hcz57_1, hcz57_2, hcz57_3, hcz57_4, hcz57_5, hcz57_6, hcz57_7, hcz57_8⟩ := cs9 BK325.out; obtain ⟨hfz57_0, hfz57_1, hfz57_2, hfz57_3, hfz57_4, hfz57_5, hfz57_6, hfz57_7, hfz57_8⟩ := fz9 BK325.out) | (go_at_call 43; (with_reducible refine (impl_PolicyValid.calls k a2_0 a2_1 a2_2 a2_3 a2_4 a2_5 a2_6 a2_7 _ _ l2_8 false _ ?side1 ?side2 A6.out).mono ?_); (case side1 => repeat (first | exact (Kd.C_below HR2_8.out HB.out) | (with_reducible refine Kd.C_alloc ?_ _) | (with_reducible refine Kd.C_drewN ?_ _) | (with_reducible refine Kd.C_drew ?_))); (case side2 => exact HC2_8.out); rintro e w58 ⟨rfl, hb⟩; have n0_ := bB BK324 hb; have n1_ := bB BK325 hb; have n2_ := bS HB hb; clear BK324; clear BK325; clear HB; have BK324 := n0_; have BK325 := n1_; have HB := n2_; clear n0_ n1_ n2_; (try clear hb); (try clear hb2); (try clear hk); (try clear hi)))
   go_ret
   exact ⟨by first | rfl | (simp [errW_none, errW_some] <;> rfl) | (simp [*, errW_none, errW_some] <;> rfl), by exact bw HB.out⟩
 ·
  replace c5 := Bool.eq_false_iff.mpr c5
  subst c5
  have H1 : (some false) = some r := by rw [if_neg (show ¬ (false = true) by decide)] at H; exact H
  clear H
  have H := H1
  clear H1
  obtain rfl := Option.some.inj H
  go_enter Try.func15, Try.ntmps15
  go_wp2_with (first | ((with_reducible refine gate_dst (N := 4) rfl ?_); refine bx 4 #[.int .i64 a1_0, .int .i64 a1_1, .int .i64 a1_2, .slice A1_3 l1_3.length c1_3] 39 ?_; intro gb324 hg w59 hbox hb; have BK324 := Aside0.mk (hbox); have GW324 := gwB HB hg; have GE324 := gwB HB hg; replace HB := bS HB hb; clear hb hbox hg) | ((with_reducible refine gate_dst (N := 5) rfl ?_); refine bx 5 #[.string a2_0, .bool a2_1, .int .i64 a2_2, .int .i64 a2_3, .int .i64 a2_4, .int .i64 a2_5, .int .i64 a2_6, .string a2_7, .slice A2_8 l2_8.length c2_8] 45 ?_; intro gb325 hg w60 hbox hb; have BK325 := Aside0.mk (hbox); have GW325 := gwB HB hg; have GE325 := gwB HB hg; replace HB := bS HB hb; have NB324_325 := nbL BK324 hg; have NB325_324 := nbR BK324 hg; replace BK324 := bB BK324 hb; clear hb hbox hg; have hnb61 := NB324_325.out; have hnc61 := NB325_324.out; obtain ⟨hcz62_0, hcz62_1, hcz62_2, hcz62_3⟩ := cs4 BK324.out; obtain ⟨hfz62_0, hfz62_1, hfz62_2, hfz62_3⟩ := fz4 BK324.out) | ((with_reducible refine gate_callee (f := 42) rfl ?_); refine gl (some 9) Try.func42 #[.slice A0 l0.length c0, .agg #[.int .i64 a1_0, .int .i64 a1_1, .int .i64 a1_2, .slice A1_3 l1_3.length c1_3]] ?_; (with_reducible refine (impl_RequestValid.calls k _ _ l0 a1_0 a1_1 a1_2 _ _ l1_3 false _ ?side1 ?side2 ?side3 ?side4 A4.out).mono ?_); (case side1 => repeat (first | exact (Kd.C_below HR0.out HB.out) | (with_reducible refine Kd.C_alloc ?_ _) | (with_reducible refine Kd.C_drewN ?_ _) | (with_reducible refine Kd.C_drew ?_))); (case side2 => exact HC0.out); (case side3 => repeat (first | exact (Kd.C_below HR1_3.out HB.out) | (with_reducible refine Kd.C_alloc ?_ _) | (with_reducible refine Kd.C_drewN ?_ _) | (with_reducible refine Kd.C_drew ?_))); (case side4 => exact HC1_3.out); rintro e w63 ⟨rfl, hb⟩; refine ⟨_, rfl, ?_⟩; replace BK324 := bB BK324 hb; replace BK325 := bB BK325 hb; replace HB := bS HB hb; (try clear hb); (try clear hb2); (try clear hk); (try clear hi)))
  go_ret
  exact ⟨by first | rfl | (simp [errW_none, errW_some] <;> rfl) | (simp [*, errW_none, errW_some] <;> rfl), by exact bw HB.out⟩

end Go.Proofs.Ytipoeghieeafjaa.P
